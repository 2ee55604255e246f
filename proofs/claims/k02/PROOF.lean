import PyProof.Rows.All
import Wide.All
import OpenK.AllK
import Wide.FinOn
import PySem.Challenge.RW_twicesaid_k02_whole_door_by_growing_talk
import KE.KStateDown
import KE.SortData
import PyProof.Rows.SortShellAny
import HandS.ForMost
import HandS.Defaults
import HandS.CallLocal
import HandS.Lambda
import HandS.Nested
import HandS.NestedK
import HandS.Strs
import HandS.SetKeys
import HandS.IsInst
import HandS.Style
import HandS.Conv
import HandS.DictComp
import HandS.DictTup
import HandS.Small
import HandS.Deep
import HandS.Zip
import HandS.Head0
import HandS.Head1
import HandS.Head2
import HandS.HeadEnd
import HandS.HeadWalk
import HandS.HeadHook1
import HandS.HeadHook2
import HandS.HeadHook3
import HandS.HeadHook4
import HandS.Set
import HandS.TupSets
import HandS.Text
import KE.KDictWalk
set_option Elab.async false
set_option linter.all false
set_option maxRecDepth 100000
section
/-! text M1 -/
/-! The plain law: speeches up to doubling. No program here. -/
namespace Tw
variable {α : Type} [DecidableEq α]

/-- last half: the word whose last place is the least, and what stands behind -/
def lh : List α → Option (α × List α)
  | [] => none
  | w :: s => if w ∈ s then lh s else some (w, s)
/-- first half -/
def fh (s : List α) : Option (List α × α) :=
  match lh s.reverse with
  | none => none
  | some (a, p) => some (p.reverse, a)

theorem lh_none {s : List α} (h : lh s = none) : s = [] := by
  induction s with
  | nil => rfl
  | cons w s ih =>
    unfold lh at h
    split at h
    · have := ih h; subst this; simp at *
    · cases h
theorem lh_some {s : List α} (h : s ≠ []) : ∃ b t, lh s = some (b, t) := by
  cases e : lh s with
  | none => exact absurd (lh_none e) h
  | some x => exact ⟨x.1, x.2, rfl⟩
/-- the shape of a last half -/
theorem lh_shape : ∀ {s : List α} {b : α} {t : List α}, lh s = some (b, t) → ∃ z, s = z ++ b :: t ∧ b ∉ t ∧ ∀ x ∈ z, x = b ∨ x ∈ t
  | [], _, _, h => by cases h
  | w :: s, b, t, h => by
    unfold lh at h
    split at h
    · rename_i hw
      obtain ⟨z, e, h1, h2⟩ := lh_shape h
      refine ⟨w :: z, by rw [e]; rfl, h1, fun x hx => ?_⟩
      rcases List.mem_cons.mp hx with rfl | hx
      · rw [e] at hw
        rcases List.mem_append.mp hw with hw | hw
        · exact h2 x hw
        · rcases List.mem_cons.mp hw with rfl | hw
          · exact .inl rfl
          · exact .inr hw
      · exact h2 x hx
    · rename_i hw
      cases h
      exact ⟨[], rfl, hw, fun x hx => by cases hx⟩
theorem lh_of {z : List α} {b : α} {t : List α} (h1 : b ∉ t) (h2 : ∀ x ∈ z, x = b ∨ x ∈ t) : lh (z ++ b :: t) = some (b, t) := by
  induction z with
  | nil => show lh (b :: t) = _; unfold lh; rw [if_neg h1]
  | cons w z ih =>
    show lh (w :: (z ++ b :: t)) = _
    unfold lh
    rw [if_pos, ih fun x hx => h2 x (List.mem_cons_of_mem _ hx)]
    rcases h2 w List.mem_cons_self with rfl | h
    · exact List.mem_append_right _ List.mem_cons_self
    · exact List.mem_append_right _ (List.mem_cons_of_mem _ h)
theorem lh_mem {s : List α} {b : α} {t : List α} (h : lh s = some (b, t)) (x : α) : x ∈ s ↔ x = b ∨ x ∈ t := by
  obtain ⟨z, e, h1, h2⟩ := lh_shape h
  rw [e, List.mem_append, List.mem_cons]
  constructor
  · rintro (h | h)
    · exact h2 x h
    · exact h
  · exact .inr
theorem lh_notin {s : List α} {b : α} {t : List α} (h : lh s = some (b, t)) : b ∉ t := let ⟨_, _, h1, _⟩ := lh_shape h; h1
theorem lh_len {s : List α} {b : α} {t : List α} (h : lh s = some (b, t)) : t.length < s.length := by
  obtain ⟨z, e, _, _⟩ := lh_shape h
  rw [e, List.length_append, List.length_cons]; omega

theorem fh_none {s : List α} (h : fh s = none) : s = [] := by
  unfold fh at h
  split at h
  · rename_i e
    have := lh_none e
    simpa using this
  · cases h
theorem fh_some {s : List α} (h : s ≠ []) : ∃ p a, fh s = some (p, a) := by
  cases e : fh s with
  | none => exact absurd (fh_none e) h
  | some x => exact ⟨x.1, x.2, rfl⟩
theorem fh_lh {s p : List α} {a : α} : fh s = some (p, a) ↔ lh s.reverse = some (a, p.reverse) := by
  unfold fh
  constructor
  · intro h
    split at h
    · cases h
    · rename_i a' p' e
      cases h
      rw [e, List.reverse_reverse]
  · intro h
    rw [h]
    simp
theorem fh_shape {s p : List α} {a : α} (h : fh s = some (p, a)) : ∃ z, s = p ++ a :: z ∧ a ∉ p ∧ ∀ x ∈ z, x = a ∨ x ∈ p := by
  obtain ⟨z, e, h1, h2⟩ := lh_shape (fh_lh.mp h)
  refine ⟨z.reverse, ?_, by simpa using h1, fun x hx => by simpa using h2 x (by simpa using hx)⟩
  have := congrArg List.reverse e
  simpa using this
theorem fh_of {p z : List α} {a : α} (h1 : a ∉ p) (h2 : ∀ x ∈ z, x = a ∨ x ∈ p) : fh (p ++ a :: z) = some (p, a) := by
  rw [fh_lh]
  have := lh_of (z := z.reverse) (b := a) (t := p.reverse) (by simpa using h1) (fun x hx => by simpa using h2 x (by simpa using hx))
  rw [← this]
  congr 1
  simp
theorem fh_mem {s p : List α} {a : α} (h : fh s = some (p, a)) (x : α) : x ∈ s ↔ x = a ∨ x ∈ p := by
  have := lh_mem (fh_lh.mp h) x
  simpa using this
theorem fh_notin {s p : List α} {a : α} (h : fh s = some (p, a)) : a ∉ p := let ⟨_, _, h1, _⟩ := fh_shape h; h1
theorem fh_len {s p : List α} {a : α} (h : fh s = some (p, a)) : p.length < s.length := by
  obtain ⟨z, e, _, _⟩ := fh_shape h
  rw [e, List.length_append, List.length_cons]; omega

/-- laid over one another, the last k words of the one on the first k of the other, k falling from n -/
def laidN (one other : List α) : Nat → List α
  | 0 => one ++ other
  | k + 1 => if one.drop (one.length - (k + 1)) = other.take (k + 1) then one ++ other.drop (k + 1) else laidN one other k
def laid (one other : List α) : List α := laidN one other (min one.length other.length)

theorem laidN_ends (one other : List α) : ∀ n, ∃ x y, laidN one other n = one ++ x ∧ laidN one other n = y ++ other ∧ (∀ w ∈ x, w ∈ other) ∧ ∀ w ∈ y, w ∈ one
  | 0 => ⟨other, one, rfl, rfl, fun _ h => h, fun _ h => h⟩
  | k + 1 => by
    unfold laidN
    split
    · rename_i h
      refine ⟨other.drop (k + 1), one.take (one.length - (k + 1)), rfl, ?_, fun w h => List.mem_of_mem_drop h, fun w h => List.mem_of_mem_take h⟩
      conv => lhs; rw [← List.take_append_drop (one.length - (k + 1)) one]
      rw [h, List.append_assoc, List.take_append_drop]
    · exact laidN_ends one other k
theorem laidN_len (one other : List α) : ∀ n, (laidN one other n).length ≤ one.length + other.length
  | 0 => by simp [laidN]
  | k + 1 => by
    unfold laidN
    split
    · rw [List.length_append, List.length_drop]; omega
    · exact laidN_len one other k

/-- the shortest speech of the same meaning -/
def short (s : List α) : List α :=
  match hf : fh s, hl : lh s with
  | some (p, a), some (b, t) => laid (short p ++ [a]) (b :: short t)
  | _, _ => []
termination_by s.length
decreasing_by
  · exact fh_len hf
  · exact lh_len hl

theorem short_nil : short ([] : List α) = [] := by
  unfold short
  split
  · rename_i h _; cases h
  · rfl
theorem short_eq {s p t : List α} {a b : α} (hf : fh s = some (p, a)) (hl : lh s = some (b, t)) : short s = laid (short p ++ [a]) (b :: short t) := by
  rw [short]
  split
  · rename_i p' a' b' t' e1 e2
    rw [hf] at e1; rw [hl] at e2
    cases e1; cases e2; rfl
  · rename_i h
    exact (h _ _ _ _ hf hl).elim

theorem halves {s : List α} (h : s ≠ []) : ∃ p a b t, fh s = some (p, a) ∧ lh s = some (b, t) :=
  let ⟨p, a, e1⟩ := fh_some h
  let ⟨b, t, e2⟩ := lh_some h
  ⟨p, a, b, t, e1, e2⟩
theorem halves_ne {s p : List α} {a : α} (h : fh s = some (p, a)) : s ≠ [] := by rintro rfl; cases h
theorem lh_ne {s t : List α} {b : α} (h : lh s = some (b, t)) : s ≠ [] := by rintro rfl; cases h

/-- a strong induction on the length -/
theorem len_rec {P : List α → Prop} (h : ∀ s, (∀ t, t.length < s.length → P t) → P s) (s : List α) : P s := by
  have : ∀ n, ∀ s : List α, s.length ≤ n → P s := by
    intro n
    induction n with
    | zero => exact fun s hs => h s fun t ht => by omega
    | succ n ih => exact fun s hs => h s fun t ht => ih t (by omega)
  exact this _ s (Nat.le_refl _)

theorem short_mem (s : List α) : ∀ x, x ∈ short s ↔ x ∈ s := by
  induction s using len_rec with
  | h s ih =>
    intro x
    by_cases hs : s = []
    · subst hs; rw [short_nil]
    · obtain ⟨p, a, b, t, e1, e2⟩ := halves hs
      rw [short_eq e1 e2]
      obtain ⟨y, z, g1, g2, g3, g4⟩ := laidN_ends (short p ++ [a]) (b :: short t) (min (short p ++ [a]).length (b :: short t).length)
      show x ∈ laidN _ _ _ ↔ _
      rw [g1, fh_mem e1]
      simp only [List.mem_append, ih p (fh_len e1), List.mem_cons, List.not_mem_nil, or_false]
      constructor
      · rintro ((h | h) | h)
        · exact .inr h
        · exact .inl h
        · have := g3 x h
          rw [← fh_mem e1, lh_mem e2]
          simpa [ih t (lh_len e2)] using this
      · rintro (h | h)
        · exact .inl (.inr h)
        · exact .inl (.inl h)
/-- the halves of a shortest speech -/
theorem short_fh {s p : List α} {a : α} (h : fh s = some (p, a)) : fh (short s) = some (short p, a) := by
  obtain ⟨p', a', b, t, e1, e2⟩ := halves (halves_ne h)
  rw [h] at e1; cases e1
  rw [short_eq h e2]
  obtain ⟨y, z, g1, g2, g3, g4⟩ := laidN_ends (short p ++ [a]) (b :: short t) (min (short p ++ [a]).length (b :: short t).length)
  show fh (laidN _ _ _) = _
  rw [g1, List.append_assoc]
  refine fh_of (fun hm => fh_notin h ((short_mem p a).mp hm)) fun x hx => ?_
  have := g3 x hx
  have h2 : x ∈ s := by rw [lh_mem e2]; simpa [short_mem] using this
  rw [fh_mem h] at h2
  simpa [short_mem] using h2
theorem short_lh {s t : List α} {b : α} (h : lh s = some (b, t)) : lh (short s) = some (b, short t) := by
  obtain ⟨p, a, b', t', e1, e2⟩ := halves (lh_ne h)
  rw [h] at e2; cases e2
  rw [short_eq e1 h]
  obtain ⟨y, z, g1, g2, g3, g4⟩ := laidN_ends (short p ++ [a]) (b :: short t) (min (short p ++ [a]).length (b :: short t).length)
  show lh (laidN _ _ _) = _
  rw [g2]
  refine lh_of (fun hm => lh_notin h ((short_mem t b).mp hm)) fun x hx => ?_
  have := g4 x hx
  have h2 : x ∈ s := by rw [fh_mem e1]; simpa [short_mem, or_comm] using this
  rw [lh_mem h] at h2
  simpa [short_mem] using h2
theorem short_short (s : List α) : short (short s) = short s := by
  induction s using len_rec with
  | h s ih =>
    by_cases hs : s = []
    · subst hs; rw [short_nil, short_nil]
    · obtain ⟨p, a, b, t, e1, e2⟩ := halves hs
      rw [short_eq (short_fh e1) (short_lh e2), ih p (fh_len e1), ih t (lh_len e2), ← short_eq e1 e2]

/-- alike -/
def Sim (u v : List α) : Prop := short u = short v
instance (u v : List α) : Decidable (Sim u v) := inferInstanceAs (Decidable (short u = short v))
theorem Sim.refl (u : List α) : Sim u u := rfl
theorem Sim.symm {u v : List α} (h : Sim u v) : Sim v u := Eq.symm h
theorem Sim.trans {u v w : List α} (h : Sim u v) (g : Sim v w) : Sim u w := Eq.trans h g
theorem Sim.mem {u v : List α} (h : Sim u v) (x : α) : x ∈ u ↔ x ∈ v := by rw [← short_mem u, ← short_mem v, h]
theorem Sim.nil {v : List α} (h : Sim [] v) : v = [] := by
  have := h.mem
  cases v with
  | nil => rfl
  | cons x v => have := (this x).mpr List.mem_cons_self; cases this
theorem Sim.short (u : List α) : Sim (short u) u := short_short u
theorem Sim.of {u v p q s t : List α} {a b : α} (h1 : fh u = some (p, a)) (h2 : lh u = some (b, s)) (g1 : fh v = some (q, a)) (g2 : lh v = some (b, t)) (hp : Sim p q) (hs : Sim s t) : Sim u v := by
  unfold Sim at *
  rw [short_eq h1 h2, short_eq g1 g2, hp, hs]
theorem Sim.same {u v : List α} (h1 : fh u = fh v) (h2 : lh u = lh v) : Sim u v := by
  by_cases hu : u = []
  · subst hu
    have : v = [] := lh_none h2.symm
    subst this; exact .refl _
  · obtain ⟨p, a, b, t, e1, e2⟩ := halves hu
    exact .of e1 e2 (h1 ▸ e1) (h2 ▸ e2) (.refl _) (.refl _)
theorem Sim.fh {u v p : List α} {a : α} (h : Sim u v) (e : fh u = some (p, a)) : ∃ q, Tw.fh v = some (q, a) ∧ Sim p q := by
  have hv : v ≠ [] := by
    rintro rfl
    exact halves_ne e h.symm.nil
  obtain ⟨q, a', e2⟩ := fh_some hv
  have s1 := short_fh e
  have s2 := short_fh e2
  rw [show Tw.short u = Tw.short v from h, s2] at s1
  have s3 := Option.some.inj s1
  have e3 := congrArg Prod.fst s3
  have e4 := congrArg Prod.snd s3
  dsimp only at e3 e4
  subst e4
  exact ⟨q, e2, e3.symm⟩
theorem Sim.lh {u v s : List α} {b : α} (h : Sim u v) (e : lh u = some (b, s)) : ∃ t, Tw.lh v = some (b, t) ∧ Sim s t := by
  have hv : v ≠ [] := by
    rintro rfl
    exact lh_ne e h.symm.nil
  obtain ⟨b', t, e2⟩ := lh_some hv
  have s1 := short_lh e
  have s2 := short_lh e2
  rw [show Tw.short u = Tw.short v from h, s2] at s1
  have s3 := Option.some.inj s1
  have e3 := congrArg Prod.fst s3
  have e4 := congrArg Prod.snd s3
  dsimp only at e3 e4
  subst e3
  exact ⟨t, e2, e4.symm⟩

theorem lh_snoc : ∀ {u t : List α} {b : α} (w : α), lh u = some (b, t) → lh (u ++ [w]) = if w = b then lh (t ++ [w]) else some (b, t ++ [w])
  | [], _, _, _, h => by cases h
  | x :: u, t, b, w, h => by
    unfold lh at h
    show lh (x :: (u ++ [w])) = _
    split at h
    · rename_i hx
      conv => lhs; unfold lh
      rw [if_pos (List.mem_append_left _ hx)]
      exact lh_snoc w h
    · rename_i hx
      cases h
      conv => lhs; unfold lh
      by_cases e : w = x
      · subst e
        rw [if_pos (by simp), if_pos rfl]
      · rw [if_neg, if_neg e]
        simp only [List.mem_append, List.mem_singleton]
        rintro (h | h)
        · exact hx h
        · exact e h.symm
theorem fh_snoc (u : List α) (w : α) : fh (u ++ [w]) = if w ∈ u then fh u else some (u, w) := by
  unfold fh
  rw [List.reverse_append]
  show (match lh (w :: u.reverse) with | none => none | some (a, p) => some (p.reverse, a)) = _
  have e : lh (w :: u.reverse) = if w ∈ u.reverse then lh u.reverse else some (w, u.reverse) := rfl
  rw [e]
  by_cases h : w ∈ u
  · rw [if_pos (by simpa using h), if_pos h]
  · rw [if_neg (by simpa using h), if_neg h]
    simp
theorem Sim.snoc {u v : List α} (h : Sim u v) (w : α) : Sim (u ++ [w]) (v ++ [w]) := by
  induction u using len_rec generalizing v with
  | h u ih =>
    by_cases hu : u = []
    · subst hu
      rw [h.nil]; exact .refl _
    · obtain ⟨p, a, b, s, e1, e2⟩ := halves hu
      obtain ⟨q, g1, hp⟩ := h.fh e1
      obtain ⟨t, g2, hs⟩ := h.lh e2
      have ihs := ih s (lh_len e2) hs
      -- the first halves
      have f1 : ∃ p' a' q', Tw.fh (u ++ [w]) = some (p', a') ∧ Tw.fh (v ++ [w]) = some (q', a') ∧ Sim p' q' := by
        rw [fh_snoc, fh_snoc]
        by_cases hw : w ∈ u
        · rw [if_pos hw, if_pos ((h.mem w).mp hw)]
          exact ⟨p, a, q, e1, g1, hp⟩
        · rw [if_neg hw, if_neg fun z => hw ((h.mem w).mpr z)]
          exact ⟨u, w, v, rfl, rfl, h⟩
      have l1 : ∃ b' s' t', Tw.lh (u ++ [w]) = some (b', s') ∧ Tw.lh (v ++ [w]) = some (b', t') ∧ Sim s' t' := by
        rw [lh_snoc w e2, lh_snoc w g2]
        by_cases hw : w = b
        · rw [if_pos hw, if_pos hw]
          obtain ⟨b', s', e⟩ := lh_some (show s ++ [w] ≠ [] by simp)
          obtain ⟨t', g, q⟩ := ihs.lh e
          exact ⟨b', s', t', e, g, q⟩
        · rw [if_neg hw, if_neg hw]
          exact ⟨b, s ++ [w], t ++ [w], rfl, rfl, ihs⟩
      obtain ⟨p', a', q', x1, x2, x3⟩ := f1
      obtain ⟨b', s', t', y1, y2, y3⟩ := l1
      exact .of x1 y1 x2 y2 x3 y3
theorem Sim.right {u v : List α} (h : Sim u v) (z : List α) : Sim (u ++ z) (v ++ z) := by
  induction z generalizing u v with
  | nil => simpa using h
  | cons w z ih =>
    have := ih (h.snoc w)
    simpa using this
theorem lh_rev {s p : List α} {a : α} : lh s = some (a, p) ↔ fh s.reverse = some (p.reverse, a) := by
  rw [fh_lh, List.reverse_reverse, List.reverse_reverse]
theorem Sim.rev {u v : List α} (h : Sim u v) : Sim u.reverse v.reverse := by
  induction u using len_rec generalizing v with
  | h u ih =>
    by_cases hu : u = []
    · subst hu
      rw [h.nil]; exact .refl _
    · obtain ⟨p, a, b, s, e1, e2⟩ := halves hu
      obtain ⟨q, g1, hp⟩ := h.fh e1
      obtain ⟨t, g2, hs⟩ := h.lh e2
      exact .of (lh_rev.mp e2) (fh_lh.mp e1) (lh_rev.mp g2) (fh_lh.mp g1) (ih s (lh_len e2) hs) (ih p (fh_len e1) hp)
theorem Sim.left {u v : List α} (h : Sim u v) (z : List α) : Sim (z ++ u) (z ++ v) := by
  have := ((h.rev.right z.reverse)).rev
  simpa using this
theorem fh_append_sub {u z : List α} (hu : u ≠ []) (h : ∀ x ∈ z, x ∈ u) : fh (u ++ z) = fh u := by
  obtain ⟨p, a, e⟩ := fh_some hu
  obtain ⟨y, e1, h1, h2⟩ := fh_shape e
  rw [e]
  conv => lhs; rw [e1]
  rw [List.append_assoc]
  refine fh_of (z := y ++ z) h1 fun x hx => ?_
  rcases List.mem_append.mp hx with hx | hx
  · exact h2 x hx
  · exact (fh_mem e x).mp (h x hx)
theorem lh_append_sub {u z : List α} (hu : u ≠ []) (h : ∀ x ∈ z, x ∈ u) : lh (z ++ u) = lh u := by
  obtain ⟨b, t, e⟩ := lh_some hu
  obtain ⟨y, e1, h1, h2⟩ := lh_shape e
  rw [e]
  conv => lhs; rw [e1]
  rw [← List.append_assoc]
  refine lh_of h1 fun x hx => ?_
  rcases List.mem_append.mp hx with hx | hx
  · exact (lh_mem e x).mp (h x hx)
  · exact h2 x hx
theorem Sim.idem (u : List α) : Sim (u ++ u) u := by
  by_cases hu : u = []
  · subst hu; exact .refl _
  · exact .same (fh_append_sub hu fun _ h => h) (lh_append_sub hu fun _ h => h)

/-- v comes on of u -/
def On (u v : List α) : Prop := Sim (u ++ v) v
instance (u v : List α) : Decidable (On u v) := inferInstanceAs (Decidable (Sim _ _))
theorem On.mem {u v : List α} (h : On u v) {x : α} (hx : x ∈ u) : x ∈ v := (Sim.mem h x).mp (List.mem_append_left _ hx)
theorem On.right {u v : List α} (h : On u v) (z : List α) : On u (v ++ z) := by
  have := Sim.right h z
  unfold On
  simpa using this
theorem On.trans {u v x : List α} (h : On u v) (g : On v x) : On u x := by
  -- u x ~ u v x ~ v x ~ x
  have h1 : Sim (u ++ (v ++ x)) (u ++ x) := Sim.left g u
  have h2 : Sim ((u ++ v) ++ x) (v ++ x) := Sim.right h x
  have h3 : Sim (u ++ (v ++ x)) (v ++ x) := by simpa using h2
  exact (h1.symm.trans h3).trans g
theorem On.self (u z : List α) : On u (u ++ z) := by
  have := Sim.right (Sim.idem u) z
  unfold On
  simpa using this
theorem On.congr {u u' v v' : List α} (hu : Sim u u') (hv : Sim v v') (h : On u v) : On u' v' :=
  (((hu.right v).symm.trans h).trans hv |> fun (q : Sim (u' ++ v) v') => (Sim.left hv u').symm.trans q)
/-- those of which one speech comes on stand in a row -/
theorem On.chain {u v x : List α} (h : On u x) (g : On v x) : On u v ∨ On v u := by
  induction x using len_rec generalizing u v with
  | h x ih =>
    by_cases hx : x = []
    · subst hx
      have : u = [] := by
        cases u with
        | nil => rfl
        | cons w u => have := h.mem List.mem_cons_self; cases this
      subst this
      exact .inl (.refl _)
    · obtain ⟨p, a, e⟩ := fh_some hx
      have key : ∀ {u : List α}, On u x → (a ∉ u ∧ On u p) ∨ (a ∈ u ∧ On x u) := by
        intro u h
        by_cases ha : a ∈ u
        · refine .inr ⟨ha, ?_⟩
          have hu : u ≠ [] := by rintro rfl; cases ha
          obtain ⟨p', a', e'⟩ := fh_some hu
          obtain ⟨z, sx, hz1, hz2⟩ := fh_shape e
          -- a is the last new word of u x, so u has all words
          have hall : ∀ y ∈ x, y ∈ u := by
            obtain ⟨p2, a2, e2⟩ := fh_some (show u ++ x ≠ [] by simp [hu])
            obtain ⟨q, g1, g2⟩ := Sim.fh h e2
            rw [e] at g1; cases g1
            obtain ⟨z2, s2, w1, w2⟩ := fh_shape e2
            intro y hy
            -- p2 is ahead of the first a in u x; a is in u
            have hsplit : ∃ r, u = p2 ++ a :: r := by
              rw [List.append_eq_append_iff] at s2
              rcases s2 with ⟨r, s3, s4⟩ | ⟨r, s3, s4⟩
              · exfalso; apply w1; rw [s3]; exact List.mem_append_left _ ha
              · cases r with
                | nil => exfalso; apply w1; rw [List.append_nil] at s3; rw [← s3]; exact ha
                | cons c r => cases s4; exact ⟨r, s3⟩
            obtain ⟨r, hr⟩ := hsplit
            have := (fh_mem e2 y).mp (List.mem_append_right _ hy)
            rw [hr]
            rcases this with rfl | this
            · exact List.mem_append_right _ List.mem_cons_self
            · exact List.mem_append_left _ this
          have hall2 : ∀ y ∈ u, y ∈ x := fun y hy => h.mem hy
          -- x u ~ u : the same first half up to alike, the same last half
          obtain ⟨p2, a2, e2⟩ := fh_some (show u ++ x ≠ [] by simp [hu])
          obtain ⟨q, g1, g2⟩ := Sim.fh h e2
          rw [e] at g1; cases g1
          rw [fh_append_sub hu hall] at e2
          obtain ⟨b, t, e3⟩ := lh_some hu
          exact .of (p := p) (q := p2) (by rw [fh_append_sub hx hall2]; exact e) (by rw [lh_append_sub hu hall]; exact e3) e2 e3 g2.symm (.refl _)
        · refine .inl ⟨ha, ?_⟩
          obtain ⟨z, sx, hz1, hz2⟩ := fh_shape e
          have hf : fh (u ++ x) = some (u ++ p, a) := by
            rw [sx, ← List.append_assoc]
            refine fh_of ?_ fun y hy => ?_
            · simp [ha, hz1]
            · rcases hz2 y hy with h | h
              · exact .inl h
              · exact .inr (List.mem_append_right _ h)
          obtain ⟨q, g1, g2⟩ := Sim.fh h hf
          rw [e] at g1; cases g1
          exact g2
      rcases key h with ⟨hu, h1⟩ | ⟨hu, h1⟩
      · rcases key g with ⟨hv, g1⟩ | ⟨hv, g1⟩
        · exact ih p (fh_len e) h1 g1
        · exact .inl (h.trans g1)
      · exact .inr (g.trans h1)
/-- neither comes on of the other -/
def Shut (u v : List α) : Prop := ¬ On u v ∧ ¬ On v u
theorem Shut.right {u v : List α} (h : Shut u v) (z : List α) : Shut (u ++ z) (v ++ z) := by
  have key : ∀ {u v : List α}, On (u ++ z) (v ++ z) → On u v ∨ On v u := by
    intro u v h
    have h1 : On u (v ++ z) := (On.self u z).trans h
    exact On.chain h1 (On.self v z)
  constructor
  · intro q
    rcases key q with q | q
    · exact h.1 q
    · exact h.2 q
  · intro q
    rcases key q with q | q
    · exact h.2 q
    · exact h.1 q
theorem Sim.on {u v : List α} (h : Sim u v) : On u v := (h.right v).trans (Sim.idem v)
/-- the talk that came first, and its end that the other heard -/
theorem suffix_back {s o : List α} (h : On (s ++ o) o) : Sim (s ++ o) o := by
  have h1 : Sim (s ++ (o ++ o)) (s ++ o) := (Sim.idem o).left s
  have h2 : Sim ((s ++ o) ++ o) o := h
  exact (show Sim (s ++ o) (s ++ (o ++ o)) from h1.symm).trans (by simpa using h2)
theorem suffix_words {s o : List α} (hw : ∀ x ∈ s, x ∈ o) (h : On o (s ++ o)) : Sim (s ++ o) o := by
  by_cases ho : o = []
  · subst ho
    have : s = [] := by
      cases s with
      | nil => rfl
      | cons x s => have := hw x List.mem_cons_self; cases this
    subst this; exact .refl _
  · have hw2 : ∀ x ∈ s ++ o, x ∈ o := fun x hx => (List.mem_append.mp hx).elim (hw x) id
    obtain ⟨p, a, b, t, e1, e2⟩ := halves ho
    obtain ⟨q, g1, g2⟩ := Sim.fh h (by rw [fh_append_sub ho hw2]; exact e1)
    exact .of g1 (by rw [lh_append_sub ho hw]; exact e2) e1 e2 g2.symm (.refl _)
end Tw
end
section
/-! text M2 -/
namespace Tw
variable {α : Type} [DecidableEq α]
/-- the words by first places -/
def firsts (s : List α) : List α := s.foldl (fun f w => if w ∈ f then f else f ++ [w]) []
theorem firsts_snoc (s : List α) (w : α) : firsts (s ++ [w]) = if w ∈ firsts s then firsts s else firsts s ++ [w] := by
  unfold firsts
  rw [List.foldl_append]
  rfl
theorem snoc_rec {P : List α → Prop} (h0 : P []) (h1 : ∀ s w, P s → P (s ++ [w])) (s : List α) : P s := by
  have : ∀ r : List α, P r.reverse := by
    intro r
    induction r with
    | nil => exact h0
    | cons w r ih => rw [List.reverse_cons]; exact h1 _ _ ih
  have := this s.reverse
  rwa [List.reverse_reverse] at this
theorem firsts_mem (s : List α) : ∀ x, x ∈ firsts s ↔ x ∈ s := by
  induction s using snoc_rec with
  | h0 => intro x; rfl
  | h1 s w ih =>
    intro x
    rw [firsts_snoc, List.mem_append, List.mem_singleton]
    split
    · rename_i hw
      rw [ih]
      constructor
      · exact .inl
      · rintro (h | rfl)
        · exact h
        · exact (ih _).mp hw
    · rw [List.mem_append, List.mem_singleton, ih]
theorem firsts_nodup (s : List α) : (firsts s).Nodup := by
  induction s using snoc_rec with
  | h0 => exact List.nodup_nil
  | h1 s w ih =>
    rw [firsts_snoc]
    split
    · exact ih
    · rename_i hw
      rw [List.nodup_append]
      exact ⟨ih, by simp, fun a ha b hb => by rw [List.mem_singleton.mp hb]; rintro rfl; exact hw ha⟩
theorem firsts_len (s : List α) : (firsts s).length ≤ s.length := by
  induction s using snoc_rec with
  | h0 => exact Nat.le_refl _
  | h1 s w ih =>
    rw [firsts_snoc]
    split
    · simp; omega
    · simp; omega
/-- the last of the words by first places, and what stands ahead of it -/
theorem firsts_fh {s p : List α} {a : α} (h : fh s = some (p, a)) : firsts s = firsts p ++ [a] := by
  obtain ⟨z, e, h1, h2⟩ := fh_shape h
  rw [e]
  have ha : a ∉ firsts p := fun q => h1 ((firsts_mem p a).mp q)
  have key : ∀ z : List α, (∀ x ∈ z, x = a ∨ x ∈ p) → firsts (p ++ a :: z) = firsts p ++ [a] := by
    intro z
    induction z using snoc_rec with
    | h0 => intro _; rw [firsts_snoc, if_neg ha]
    | h1 z w ih =>
      intro hz
      have e2 : p ++ a :: (z ++ [w]) = (p ++ a :: z) ++ [w] := by simp
      rw [e2, firsts_snoc, ih fun x hx => hz x (List.mem_append_left _ hx), if_pos]
      rcases hz w (List.mem_append_right _ (by simp)) with rfl | hw
      · simp
      · rw [List.mem_append]; exact .inl ((firsts_mem p w).mpr hw)
  exact key z h2
/-- the first place of a word that is there -/
theorem idx_ahead {p z : List α} {a : α} (h : a ∉ p) : (p ++ a :: z).idxOf a = p.length := by
  rw [List.idxOf_append, if_neg h]
  simp
theorem fh_take {s p : List α} {a : α} (h : fh s = some (p, a)) : (firsts s).getLast? = some a ∧ s.take (s.idxOf a) = p ∧ a ∈ s := by
  refine ⟨?_, ?_, ?_⟩
  · rw [firsts_fh h]; simp
  · obtain ⟨z, e, h1, h2⟩ := fh_shape h
    rw [e, idx_ahead h1]
    simp
  · exact (fh_mem h a).mpr (.inl rfl)
/-- of few words -/
def Few (n : Nat) (s : List α) : Prop := ∃ W : List α, W.length ≤ n ∧ ∀ x ∈ s, x ∈ W
theorem Few.mono {n m : Nat} {s : List α} (h : Few n s) (l : n ≤ m) : Few m s := let ⟨W, a, b⟩ := h; ⟨W, Nat.le_trans a l, b⟩
theorem Few.sub {n : Nat} {s t : List α} (h : Few n s) (l : ∀ x ∈ t, x ∈ s) : Few n t := let ⟨W, a, b⟩ := h; ⟨W, a, fun x hx => b x (l x hx)⟩
theorem Few.zero {s : List α} (h : Few 0 s) : s = [] := by
  obtain ⟨W, a, b⟩ := h
  cases s with
  | nil => rfl
  | cons x s =>
    have := b x List.mem_cons_self
    cases W with
    | nil => cases this
    | cons y W => simp at a
theorem Few.less {n : Nat} {s t : List α} {a : α} (h : Few (n + 1) s) (ha : a ∈ s) (l : ∀ x ∈ t, x ∈ s ∧ x ≠ a) : Few n t := by
  obtain ⟨W, h1, h2⟩ := h
  refine ⟨W.erase a, ?_, fun x hx => ?_⟩
  · rw [List.length_erase_of_mem (h2 a ha)]; omega
  · rw [List.mem_erase_of_ne (l x hx).2]; exact h2 x (l x hx).1
theorem Few.fh {n : Nat} {s p : List α} {a : α} (h : Few (n + 1) s) (e : fh s = some (p, a)) : Few n p :=
  h.less ((fh_mem e a).mpr (.inl rfl)) fun x hx => ⟨(fh_mem e x).mpr (.inr hx), fun q => fh_notin e (q ▸ hx)⟩
theorem Few.lh {n : Nat} {s t : List α} {b : α} (h : Few (n + 1) s) (e : lh s = some (b, t)) : Few n t :=
  h.less ((lh_mem e b).mpr (.inl rfl)) fun x hx => ⟨(lh_mem e x).mpr (.inr hx), fun q => lh_notin e (q ▸ hx)⟩
theorem Few.short {n : Nat} {s : List α} (h : Few n s) : Few n (Tw.short s) := h.sub fun x hx => (short_mem s x).mp hx
theorem short_len : ∀ (n : Nat) (s : List α), Few n s → (short s).length + 2 ≤ 2 ^ (n + 1) := by
  intro n
  induction n with
  | zero => intro s h; rw [h.zero, short_nil]; exact Nat.le_refl 2
  | succ n ih =>
    intro s h
    by_cases hs : s = []
    · subst hs; rw [short_nil]
      have : 0 < 2 ^ (n + 1) := Nat.two_pow_pos _
      rw [Nat.pow_succ]
      simp only [List.length_nil]
      omega
    · obtain ⟨p, a, b, t, e1, e2⟩ := halves hs
      rw [short_eq e1 e2]
      have l := laidN_len (Tw.short p ++ [a]) (b :: Tw.short t) (min (Tw.short p ++ [a]).length (b :: Tw.short t).length)
      have l1 := ih p (h.fh e1)
      have l2 := ih t (h.lh e2)
      have l3 : (laid (Tw.short p ++ [a]) (b :: Tw.short t)).length ≤ (Tw.short p ++ [a]).length + (b :: Tw.short t).length := l
      simp only [List.length_append, List.length_cons, List.length_nil] at l3
      rw [Nat.pow_succ]
      omega
theorem short_le {n : Nat} {s : List α} (h : Few n s) (hn : n ≤ 6) : (short s).length ≤ 126 := by
  have := short_len n s h
  have h2 : 2 ^ (n + 1) ≤ 2 ^ 7 := Nat.pow_le_pow_right (by decide) (by omega)
  omega
end Tw
end
section
/-! text M3 -/
/-! The plain law, second part: the row by which one speech comes on of another. -/
namespace Tw
variable {α : Type} [DecidableEq α]
/-- a row by which v comes on of u -/
structure Row (n : Nat) (u v r : List α) : Prop where
  sim : Sim (u ++ r) v
  mem : ∀ x ∈ r, x ∈ v
  len : r.length + 2 ≤ 2 ^ (n + 1)
  fst : ∀ p a, fh v = some (p, a) → a ∈ u → u ≠ [] → r.length + 1 ≤ 2 ^ n
theorem on_nil {u : List α} (h : On u []) : u = [] := by
  cases u with
  | nil => rfl
  | cons x u => exact absurd (h.mem List.mem_cons_self) List.not_mem_nil
theorem on_ne {u v : List α} (h : On u v) (hu : u ≠ []) : v ≠ [] := fun e => by
  subst e; exact hu (on_nil h)
theorem row_nil {n : Nat} {v : List α} (h : Few n v) : Row n [] v (short v) where
  sim := by rw [List.nil_append]; exact Sim.short v
  mem := fun x hx => (short_mem v x).mp hx
  len := short_len n v h
  fst := fun _ _ _ _ h => absurd rfl h
/-- the word that comes first the latest isn't in u: u comes on of what stands ahead of it -/
theorem on_ahead {u v p : List α} {a : α} (h : On u v) (e : fh v = some (p, a)) (ha : a ∉ u) : On u p := by
  obtain ⟨z, ez, h1, h2⟩ := fh_shape e
  have e2 : fh (u ++ v) = some (u ++ p, a) := by
    rw [ez, ← List.append_assoc]
    refine fh_of (fun q => ?_) fun x hx => ?_
    · rcases List.mem_append.mp q with q | q
      · exact ha q
      · exact h1 q
    · rcases h2 x hx with q | q
      · exact .inl q
      · exact .inr (List.mem_append_right _ q)
  obtain ⟨q, e3, s⟩ := Sim.fh h e2
  rw [e] at e3
  cases e3
  exact s
theorem on_step {v p : List α} {a : α} (e : fh v = some (p, a)) : On (p ++ [a]) v := by
  obtain ⟨z, ez, _⟩ := fh_shape e
  have : v = (p ++ [a]) ++ z := by rw [ez]; simp
  rw [this]
  exact On.self _ _
theorem row_two {n : Nat} {u v p r q : List α} {a : α} (e : fh v = some (p, a)) (ha : a ∉ u) (h1 : Row n u p r) (h2 : Row (n + 1) (p ++ [a]) v q) : Row (n + 1) u v (r ++ [a] ++ q) where
  sim := by
    have k := h1.sim.right ([a] ++ q)
    have k2 : Sim (u ++ (r ++ [a] ++ q)) (p ++ [a] ++ q) := by
      have e1 : u ++ (r ++ [a] ++ q) = u ++ r ++ ([a] ++ q) := by simp
      have e2 : p ++ [a] ++ q = p ++ ([a] ++ q) := by simp
      rw [e1, e2]; exact k
    exact k2.trans h2.sim
  mem := fun x hx => by
    have hm := fh_mem e
    rcases List.mem_append.mp hx with hx | hx
    · rcases List.mem_append.mp hx with hx | hx
      · exact (hm x).mpr (.inr (h1.mem x hx))
      · exact (hm x).mpr (.inl (List.mem_singleton.mp hx))
    · exact h2.mem x hx
  len := by
    have l1 := h1.len
    have l2 := h2.fst p a e (List.mem_append_right _ List.mem_cons_self) (by simp)
    rw [List.length_append, List.length_append, List.length_singleton]
    have : 2 ^ (n + 1 + 1) = 2 ^ (n + 1) + 2 ^ (n + 1) := by rw [Nat.pow_succ]; omega
    omega
  fst := fun p' a' e' h' _ => by
    rw [e] at e'
    cases e'
    exact absurd h' ha
/-- the word that comes first the latest is in u: all words are -/
theorem all_in {u v p : List α} {a : α} (h : On u v) (e : fh v = some (p, a)) (ha : a ∈ u) : ∀ x ∈ v, x ∈ u := by
  obtain ⟨q, e1, s⟩ := Sim.fh (Sim.symm h) e
  obtain ⟨z, ez, h1, h2⟩ := fh_shape e1
  intro x hx
  rcases List.append_eq_append_iff.mp ez with ⟨c, c1, c2⟩ | ⟨c, c1, c2⟩
  · -- q = u ++ c
    exfalso
    rw [c1] at h1
    exact h1 (List.mem_append_left _ ha)
  · -- u = q ++ c
    have hx2 := (fh_mem e1 x).mp (List.mem_append_right _ hx)
    rcases hx2 with q2 | q2
    · rw [q2]; exact ha
    · rw [c1]; exact List.mem_append_left _ q2
theorem row_last {n : Nat} {u v p y rest t r : List α} {a b : α} (h : On u v) (e : fh v = some (p, a)) (ha : a ∈ u) (el : lh v = some (b, t)) (eu : u = y ++ b :: rest) (hr : ∀ x ∈ r, x ∈ v)
    (hs : (Sim (rest ++ r) t) ∨ ∃ q, r = b :: q ∧ Sim q t) (hl : r.length + 1 ≤ 2 ^ (n + 1)) : Row (n + 1) u v r := by
  have hu : u ≠ [] := by rw [eu]; simp
  have av := all_in h e ha
  have f1 : fh (u ++ r) = fh u := fh_append_sub hu fun x hx => av x (hr x hx)
  have f2 : fh (u ++ v) = fh u := fh_append_sub hu av
  obtain ⟨q, e1, s⟩ := Sim.fh (Sim.symm h) e
  have hb := lh_notin el
  have hm := lh_mem el
  refine ⟨?_, hr, ?_, fun _ _ _ _ _ => hl⟩
  · rcases hs with hs | ⟨q2, rq, hs⟩
    · have ew : u ++ r = y ++ b :: (rest ++ r) := by rw [eu]; simp
      have l1 : lh (u ++ r) = some (b, rest ++ r) := by
        rw [ew]
        refine lh_of (fun z => hb ((hs.mem b).mp z)) fun x hx => ?_
        have hx' : x ∈ u := by rw [eu]; exact List.mem_append_left _ hx
        rcases (hm x).mp (h.mem hx') with z | z
        · exact .inl z
        · exact .inr ((hs.mem x).mpr z)
      exact Sim.of (f1.trans (f2.symm.trans e1)) l1 e el s.symm hs
    · have l1 : lh (u ++ r) = some (b, q2) := by
        rw [rq]
        refine lh_of (fun z => hb ((hs.mem b).mp z)) fun x hx => ?_
        rcases (hm x).mp (h.mem hx) with z | z
        · exact .inl z
        · exact .inr ((hs.mem x).mpr z)
      exact Sim.of (f1.trans (f2.symm.trans e1)) l1 e el s.symm hs
  · have : 2 ^ (n + 1 + 1) = 2 ^ (n + 1) + 2 ^ (n + 1) := by rw [Nat.pow_succ]; omega
    have : 1 ≤ 2 ^ (n + 1) := Nat.one_le_two_pow
    omega
end Tw
end
section
/-! text M4 -/
/-! The plain law, third part: rows of first halves; where two shut speeches differ. -/
namespace Tw
variable {α : Type} [DecidableEq α]
/-- by first places, each word and the shortest of what stands ahead -/
def fhs (u : List α) : List (α × List α) := (firsts u).map fun x => (x, short (u.take (u.idxOf x)))
theorem fhs_len (u : List α) : (fhs u).length = (firsts u).length := List.length_map _
theorem fhs_get {u : List α} {i : Nat} {x : α} {p : List α} (h : (fhs u)[i]? = some (x, p)) : (firsts u)[i]? = some x ∧ p = short (u.take (u.idxOf x)) := by
  unfold fhs at h
  rw [List.getElem?_map] at h
  obtain ⟨y, h1, h2⟩ := Option.map_eq_some_iff.mp h
  cases h2
  exact ⟨h1, rfl⟩
theorem fhs_at {u : List α} {i : Nat} {x : α} (h : (firsts u)[i]? = some x) : (fhs u)[i]? = some (x, short (u.take (u.idxOf x))) := by
  unfold fhs
  rw [List.getElem?_map, h]
  rfl
theorem firsts_pre (s : List α) : ∀ t, ∃ r, firsts (s ++ t) = firsts s ++ r := by
  intro t
  induction t using snoc_rec with
  | h0 => exact ⟨[], by simp⟩
  | h1 t w ih =>
    obtain ⟨r, e⟩ := ih
    rw [← List.append_assoc, firsts_snoc]
    split
    · exact ⟨r, e⟩
    · exact ⟨r ++ [w], by rw [e]; simp⟩
theorem split_at {u : List α} {x : α} (h : x ∈ u) : ∃ z, u = u.take (u.idxOf x) ++ x :: z ∧ x ∉ u.take (u.idxOf x) := by
  induction u with
  | nil => cases h
  | cons y u ih =>
    by_cases e : y = x
    · subst e
      exact ⟨u, by simp [List.idxOf_cons], by simp [List.idxOf_cons]⟩
    · have hx : x ∈ u := by
        rcases List.mem_cons.mp h with q | q
        · exact absurd q.symm e
        · exact q
      obtain ⟨z, e1, e2⟩ := ih hx
      have ei : (y :: u).idxOf x = u.idxOf x + 1 := by
        rw [List.idxOf_cons]
        have : (y == x) = false := beq_eq_false_iff_ne.mpr e
        rw [this]; rfl
      refine ⟨z, ?_, ?_⟩
      · rw [ei, List.take_succ_cons, List.cons_append, ← e1]
      · rw [ei, List.take_succ_cons]
        intro q
        rcases List.mem_cons.mp q with q | q
        · exact e q.symm
        · exact e2 q
/-- what stands ahead of the i-th word by first places are the words that come first sooner -/
theorem ahead_words {u : List α} {i : Nat} {x : α} (h : (firsts u)[i]? = some x) : ∀ y, y ∈ u.take (u.idxOf x) ↔ y ∈ (firsts u).take i := by
  have hx : x ∈ u := (firsts_mem u x).mp (List.mem_of_getElem? h)
  obtain ⟨z, e1, e2⟩ := split_at hx
  generalize u.take (u.idxOf x) = p at e1 e2
  have e3 : firsts (p ++ [x]) = firsts p ++ [x] := by
    rw [firsts_snoc, if_neg fun q => e2 ((firsts_mem p x).mp q)]
  obtain ⟨r, e4⟩ := firsts_pre (p ++ [x]) z
  have e5 : firsts u = firsts p ++ x :: r := by
    rw [e1, show p ++ x :: z = p ++ [x] ++ z by simp, e4, e3]; simp
  have nd := firsts_nodup u
  have ei : i = (firsts p).length := by
    obtain ⟨hi, h2⟩ := List.getElem?_eq_some_iff.mp h
    have hl : (firsts p).length < (firsts u).length := by rw [e5, List.length_append, List.length_cons]; omega
    have h3 : (firsts u)[(firsts p).length] = x := by
      have : (firsts u)[(firsts p).length]? = some x := by rw [e5, List.getElem?_append_right (Nat.le_refl _), Nat.sub_self]; rfl
      exact (List.getElem?_eq_some_iff.mp this).2
    exact (List.getElem_inj nd).mp (h2.trans h3.symm)
  intro y
  rw [ei, e5, List.take_left', firsts_mem]
  rfl
/-- two rows that agree as far as the shorter one goes -/
theorem rows_on {u v : List α} (hl : (firsts u).length ≤ (firsts v).length) (h : ∀ j, j < (firsts u).length → (fhs u)[j]? = (fhs v)[j]?) : On u v := by
  by_cases hu : u = []
  · subst hu
    exact Sim.refl v
  obtain ⟨p, a, ef⟩ := fh_some hu
  have e1 := firsts_fh ef
  obtain ⟨_, e2, ha⟩ := fh_take ef
  have hi : (firsts u)[(firsts p).length]? = some a := by rw [e1, List.getElem?_append_right (Nat.le_refl _), Nat.sub_self]; rfl
  have hlt := (List.getElem?_eq_some_iff.mp hi).1
  have g1 := fhs_at hi
  rw [e2, h _ hlt] at g1
  obtain ⟨g2, g3⟩ := fhs_get g1
  have hav : a ∈ v := (firsts_mem v a).mp (List.mem_of_getElem? g2)
  obtain ⟨z, ez, nz⟩ := split_at hav
  generalize v.take (v.idxOf a) = q at ez nz g3
  have sq : Sim p q := g3
  have f1 : fh (q ++ [a]) = some (q, a) := by rw [fh_snoc, if_neg nz]
  have mu := fh_mem ef
  have f2 : fh (u ++ (q ++ [a])) = some (p, a) := by
    rw [fh_append_sub hu, ef]
    intro x hx
    rcases List.mem_append.mp hx with k | k
    · exact (mu x).mpr (.inr ((sq.mem x).mpr k))
    · rw [List.mem_singleton.mp k]; exact ha
  have hne : q ++ [a] ≠ [] := by simp
  have f3 : lh (u ++ (q ++ [a])) = lh (q ++ [a]) := lh_append_sub hne fun x hx => by
    rcases (mu x).mp hx with k | k
    · rw [k]; simp
    · exact List.mem_append_left _ ((sq.mem x).mp k)
  obtain ⟨b, t, e4⟩ := lh_some hne
  have o1 : On u (q ++ [a]) := Sim.of f2 (f3.trans e4) f1 e4 sq (Sim.refl t)
  have ev : v = (q ++ [a]) ++ z := by rw [ez]; simp
  rw [ev]
  exact o1.right z
/-- shut speeches' rows differ -/
theorem shut_rows {u v : List α} (h : Shut u v) (e : ∀ j, j < min (fhs u).length (fhs v).length → (fhs u)[j]? = (fhs v)[j]?) : False := by
  rw [fhs_len, fhs_len] at e
  rcases Nat.le_total (firsts u).length (firsts v).length with c | c
  · exact h.1 (rows_on c fun j hj => e j (by omega))
  · exact h.2 (rows_on c fun j hj => (e j (by omega)).symm)
/-- where the rows agree ahead, what stands ahead has the same words -/
theorem rows_words {u v : List α} {i : Nat} {x y : α} {p q : List α} (hu : (fhs u)[i]? = some (x, p)) (hv : (fhs v)[i]? = some (y, q)) (e : ∀ j, j < i → (fhs u)[j]? = (fhs v)[j]?) : ∀ w, w ∈ p ↔ w ∈ q := by
  obtain ⟨h1, rfl⟩ := fhs_get hu
  obtain ⟨h2, rfl⟩ := fhs_get hv
  have et : (firsts u).take i = (firsts v).take i := by
    refine List.ext_getElem? fun j => ?_
    rw [List.getElem?_take, List.getElem?_take]
    split
    · rename_i hj
      have k := e j hj
      unfold fhs at k
      rw [List.getElem?_map, List.getElem?_map] at k
      cases a : (firsts u)[j]? with
      | none =>
        rw [a] at k
        cases b : (firsts v)[j]? with
        | none => rfl
        | some _ => rw [b] at k; cases k
      | some x' =>
        rw [a] at k
        cases b : (firsts v)[j]? with
        | none => rw [b] at k; cases k
        | some y' =>
          rw [b] at k
          have := congrArg (Option.map Prod.fst) k
          exact this
    · rfl
  intro w
  rw [short_mem, short_mem, ahead_words h1, ahead_words h2, et]
theorem fhs_sub {u : List α} {i : Nat} {x : α} {p : List α} (h : (fhs u)[i]? = some (x, p)) : x ∈ u ∧ (∀ w ∈ p, w ∈ u) ∧ short p = p := by
  obtain ⟨h1, rfl⟩ := fhs_get h
  exact ⟨(firsts_mem u x).mp (List.mem_of_getElem? h1), fun w hw => List.mem_of_mem_take ((short_mem _ w).mp hw), short_short _⟩
end Tw
end
section
/-! text B -/
set_option maxHeartbeats 4000000
namespace Tw
open PySem PySem.Spec PyProof.Rows L2
def comeDeaf (K : PySem.W.Frag) : Addr := match K.lookup (He.fAd K ("Talk", some "come")) with
  | some ⟨_, _, .func fd, _⟩ => (match fd.kwdefaults with
    | .ref D => (match PySem.W.nsIn K D "deaf" with
      | some (some (.ref b)) => b
      | _ => 0)
    | _ => 0)
  | _ => 0
def deafB (K : PySem.W.Frag) : Bool := match K.lookup (comeDeaf K) with
  | some ⟨.type c, _, .seq its _, _⟩ => decide (c = "tuple") && its.isEmpty
  | _ => false
/-! ### the text -/
abbrev pw : PySem.Program := PySem.Challenge.pw_twicesaid_k02_whole_door_by_growing_talk
def topS (i : Nat) : Stmt := pw.main.body.getD i (.Pass ⟨0, 0, 0, 0⟩)
abbrev s_is_whole : Stmt := topS 19
abbrev s_is_number : Stmt := topS 20
abbrev s_is_word : Stmt := topS 21
abbrev s_are_words : Stmt := topS 22
abbrev s_is_speech : Stmt := topS 23
abbrev s_words_of : Stmt := topS 25
abbrev s_by_first : Stmt := topS 26
abbrev s_turned : Stmt := topS 27
abbrev s_without : Stmt := topS 28
abbrev s_first_half : Stmt := topS 30
abbrev s_last_half : Stmt := topS 31
abbrev s_is_row : Stmt := topS 34
abbrev s_need_rows : Stmt := topS 35
abbrev s_laid : Stmt := topS 38
abbrev s_shortest : Stmt := topS 39
abbrev s_alike : Stmt := topS 40
abbrev s_which_first : Stmt := topS 43
abbrev s_which_last : Stmt := topS 44
abbrev s_sent_back : Stmt := topS 45
abbrev s_frozen : Stmt := topS 46
abbrev s_sketched : Stmt := topS 47
abbrev s_first_halves : Stmt := topS 49
abbrev s_comes_on : Stmt := topS 51
abbrev s_behind_last : Stmt := topS 52
abbrev s_way_on : Stmt := topS 53
abbrev s_on : Stmt := topS 54
abbrev s_is_shut : Stmt := topS 57
abbrev s_open_row : Stmt := topS 59
abbrev s_shut_ear : Stmt := topS 60
abbrev s_door_doors : Stmt := topS 61
abbrev s_need : Stmt := topS 65
abbrev s_need_room : Stmt := topS 66
abbrev s_least_so : Stmt := topS 67
abbrev s_Lbag : Stmt := topS 70
abbrev s_Ltake : Stmt := topS 71
abbrev s_Ltongue : Stmt := topS 72
abbrev s_Lspeech : Stmt := topS 73
abbrev s_Lfirsts : Stmt := topS 74
abbrev s_Llasts : Stmt := topS 75
abbrev s_Llaid : Stmt := topS 76
abbrev s_Lshort : Stmt := topS 77
abbrev s_Llike : Stmt := topS 78
abbrev s_Lstand : Stmt := topS 79
abbrev s_Lhealed : Stmt := topS 80
abbrev s_law : Stmt := topS 81
abbrev s_House_init : Stmt := inClass (topS 36) 0
abbrev s_Sketch_init : Stmt := inClass (topS 42) 0
abbrev s_Sketch_house : Stmt := inClass (topS 42) 1
abbrev s_Talk_init : Stmt := inClass (topS 68) 0
abbrev s_Talk_begin : Stmt := inClass (topS 68) 1
abbrev s_Talk_need_listener : Stmt := inClass (topS 68) 2
abbrev s_Talk_come : Stmt := inClass (topS 68) 3
abbrev s_Talk_say : Stmt := inClass (topS 68) 5
abbrev s_Talk_tell : Stmt := inClass (topS 68) 6
abbrev s_Talk_said : Stmt := inClass (topS 68) 11
abbrev s_Talk_heard_of : Stmt := inClass (topS 68) 13
abbrev s_Talk_heard : Stmt := inClass (topS 68) 14
abbrev s_Talk_circles : Stmt := inClass (topS 68) 15
abbrev s_Talk_need_both : Stmt := inClass (topS 68) 16
abbrev s_Talk_door : Stmt := inClass (topS 68) 17
abbrev s_Talk_since : Stmt := inClass (topS 68) 18
/-! ### the head's facts -/
def d_is_whole : He.DefD := ⟨("is_whole", none), "is_whole", "is_whole", defArgs s_is_whole, defBody s_is_whole, defScope s_is_whole, [], []⟩
def d_is_number : He.DefD := ⟨("is_number", none), "is_number", "is_number", defArgs s_is_number, defBody s_is_number, defScope s_is_number, [], []⟩
def d_is_word : He.DefD := ⟨("is_word", none), "is_word", "is_word", defArgs s_is_word, defBody s_is_word, defScope s_is_word, [], []⟩
def d_are_words : He.DefD := ⟨("are_words", none), "are_words", "are_words", defArgs s_are_words, defBody s_are_words, defScope s_are_words, [], []⟩
def d_is_speech : He.DefD := ⟨("is_speech", none), "is_speech", "is_speech", defArgs s_is_speech, defBody s_is_speech, defScope s_is_speech, [], []⟩
def d_words_of : He.DefD := ⟨("words_of", none), "words_of", "words_of", defArgs s_words_of, defBody s_words_of, defScope s_words_of, [], []⟩
def d_by_first : He.DefD := ⟨("by_first", none), "by_first", "by_first", defArgs s_by_first, defBody s_by_first, defScope s_by_first, [], []⟩
def d_turned : He.DefD := ⟨("turned", none), "turned", "turned", defArgs s_turned, defBody s_turned, defScope s_turned, [], []⟩
def d_without : He.DefD := ⟨("without", none), "without", "without", defArgs s_without, defBody s_without, defScope s_without, [], []⟩
def d_first_half : He.DefD := ⟨("first_half", none), "first_half", "first_half", defArgs s_first_half, defBody s_first_half, defScope s_first_half, [], []⟩
def d_last_half : He.DefD := ⟨("last_half", none), "last_half", "last_half", defArgs s_last_half, defBody s_last_half, defScope s_last_half, [], []⟩
def d_is_row : He.DefD := ⟨("is_row", none), "is_row", "is_row", defArgs s_is_row, defBody s_is_row, defScope s_is_row, [], []⟩
def d_need_rows : He.DefD := ⟨("need_rows", none), "need_rows", "need_rows", defArgs s_need_rows, defBody s_need_rows, defScope s_need_rows, [], []⟩
def d_laid : He.DefD := ⟨("laid", none), "laid", "laid", defArgs s_laid, defBody s_laid, defScope s_laid, [], []⟩
def d_shortest : He.DefD := ⟨("shortest", none), "shortest", "shortest", defArgs s_shortest, defBody s_shortest, defScope s_shortest, [], []⟩
def d_alike : He.DefD := ⟨("alike", none), "alike", "alike", defArgs s_alike, defBody s_alike, defScope s_alike, [], []⟩
def d_which_first : He.DefD := ⟨("which_first", none), "which_first", "which_first", defArgs s_which_first, defBody s_which_first, defScope s_which_first, [], []⟩
def d_which_last : He.DefD := ⟨("which_last", none), "which_last", "which_last", defArgs s_which_last, defBody s_which_last, defScope s_which_last, [], []⟩
def d_sent_back : He.DefD := ⟨("sent_back", none), "sent_back", "sent_back", defArgs s_sent_back, defBody s_sent_back, defScope s_sent_back, [], []⟩
def d_frozen : He.DefD := ⟨("frozen", none), "frozen", "frozen", defArgs s_frozen, defBody s_frozen, defScope s_frozen, [], []⟩
def d_sketched : He.DefD := ⟨("sketched", none), "sketched", "sketched", defArgs s_sketched, defBody s_sketched, defScope s_sketched, [], []⟩
def d_first_halves : He.DefD := ⟨("first_halves", none), "first_halves", "first_halves", defArgs s_first_halves, defBody s_first_halves, defScope s_first_halves, [], []⟩
def d_comes_on : He.DefD := ⟨("comes_on", none), "comes_on", "comes_on", defArgs s_comes_on, defBody s_comes_on, defScope s_comes_on, [], []⟩
def d_behind_last : He.DefD := ⟨("behind_last", none), "behind_last", "behind_last", defArgs s_behind_last, defBody s_behind_last, defScope s_behind_last, [], []⟩
def d_way_on : He.DefD := ⟨("way_on", none), "way_on", "way_on", defArgs s_way_on, defBody s_way_on, defScope s_way_on, [], []⟩
def d_on : He.DefD := ⟨("on", none), "on", "on", defArgs s_on, defBody s_on, defScope s_on, [], []⟩
def d_is_shut : He.DefD := ⟨("is_shut", none), "is_shut", "is_shut", defArgs s_is_shut, defBody s_is_shut, defScope s_is_shut, [], []⟩
def d_open_row : He.DefD := ⟨("open_row", none), "open_row", "open_row", defArgs s_open_row, defBody s_open_row, defScope s_open_row, [], []⟩
def d_shut_ear : He.DefD := ⟨("shut_ear", none), "shut_ear", "shut_ear", defArgs s_shut_ear, defBody s_shut_ear, defScope s_shut_ear, [], []⟩
def d_door_doors : He.DefD := ⟨("door_doors", none), "door", "door", defArgs s_door_doors, defBody s_door_doors, defScope s_door_doors, [], []⟩
def d_need : He.DefD := ⟨("need", none), "need", "need", defArgs s_need, defBody s_need, defScope s_need, [], []⟩
def d_need_room : He.DefD := ⟨("need_room", none), "need_room", "need_room", defArgs s_need_room, defBody s_need_room, defScope s_need_room, [], []⟩
def d_least_so : He.DefD := ⟨("least_so", none), "least_so", "least_so", defArgs s_least_so, defBody s_least_so, defScope s_least_so, [], []⟩
def d_Lbag : He.DefD := ⟨("_law_bag", none), "_law_bag", "_law_bag", defArgs s_Lbag, defBody s_Lbag, defScope s_Lbag, [], []⟩
def d_Ltake : He.DefD := ⟨("_law_take", none), "_law_take", "_law_take", defArgs s_Ltake, defBody s_Ltake, defScope s_Ltake, [], []⟩
def d_Ltongue : He.DefD := ⟨("_law_tongue", none), "_law_tongue", "_law_tongue", defArgs s_Ltongue, defBody s_Ltongue, defScope s_Ltongue, [], []⟩
def d_Lspeech : He.DefD := ⟨("_law_speech", none), "_law_speech", "_law_speech", defArgs s_Lspeech, defBody s_Lspeech, defScope s_Lspeech, [], []⟩
def d_Lfirsts : He.DefD := ⟨("_law_firsts", none), "_law_firsts", "_law_firsts", defArgs s_Lfirsts, defBody s_Lfirsts, defScope s_Lfirsts, [], []⟩
def d_Llasts : He.DefD := ⟨("_law_lasts", none), "_law_lasts", "_law_lasts", defArgs s_Llasts, defBody s_Llasts, defScope s_Llasts, [], []⟩
def d_Llaid : He.DefD := ⟨("_law_laid", none), "_law_laid", "_law_laid", defArgs s_Llaid, defBody s_Llaid, defScope s_Llaid, [], []⟩
def d_Lshort : He.DefD := ⟨("_law_short", none), "_law_short", "_law_short", defArgs s_Lshort, defBody s_Lshort, defScope s_Lshort, [], []⟩
def d_Llike : He.DefD := ⟨("_law_like", none), "_law_like", "_law_like", defArgs s_Llike, defBody s_Llike, defScope s_Llike, [], []⟩
def d_Lstand : He.DefD := ⟨("_law_stand", none), "_law_stand", "_law_stand", defArgs s_Lstand, defBody s_Lstand, defScope s_Lstand, [], []⟩
def d_Lhealed : He.DefD := ⟨("_law_healed", none), "_law_healed", "_law_healed", defArgs s_Lhealed, defBody s_Lhealed, defScope s_Lhealed, [], []⟩
def d_law : He.DefD := ⟨("law", none), "law", "law", defArgs s_law, defBody s_law, defScope s_law, [], []⟩
def d_House_init : He.DefD := ⟨("House", some "__init__"), "__init__", "House.__init__", defArgs s_House_init, defBody s_House_init, defScope s_House_init, [], []⟩
def d_Sketch_init : He.DefD := ⟨("Sketch", some "__init__"), "__init__", "Sketch.__init__", defArgs s_Sketch_init, defBody s_Sketch_init, defScope s_Sketch_init, [], []⟩
def d_Sketch_house : He.DefD := ⟨("Sketch", some "house"), "house", "Sketch.house", defArgs s_Sketch_house, defBody s_Sketch_house, defScope s_Sketch_house, [], []⟩
def d_Talk_init : He.DefD := ⟨("Talk", some "__init__"), "__init__", "Talk.__init__", defArgs s_Talk_init, defBody s_Talk_init, defScope s_Talk_init, [], []⟩
def d_Talk_begin : He.DefD := ⟨("Talk", some "begin"), "begin", "Talk.begin", defArgs s_Talk_begin, defBody s_Talk_begin, defScope s_Talk_begin, [], []⟩
def d_Talk_need_listener : He.DefD := ⟨("Talk", some "need_listener"), "need_listener", "Talk.need_listener", defArgs s_Talk_need_listener, defBody s_Talk_need_listener, defScope s_Talk_need_listener, [], []⟩
def d_Talk_come : He.DefD := ⟨("Talk", some "come"), "come", "Talk.come", defArgs s_Talk_come, defBody s_Talk_come, defScope s_Talk_come, [], [("deaf", .adr comeDeaf)]⟩
def d_Talk_say : He.DefD := ⟨("Talk", some "say"), "say", "Talk.say", defArgs s_Talk_say, defBody s_Talk_say, defScope s_Talk_say, [], []⟩
def d_Talk_tell : He.DefD := ⟨("Talk", some "tell"), "tell", "Talk.tell", defArgs s_Talk_tell, defBody s_Talk_tell, defScope s_Talk_tell, [], []⟩
def d_Talk_said : He.DefD := ⟨("Talk", some "said"), "said", "Talk.said", defArgs s_Talk_said, defBody s_Talk_said, defScope s_Talk_said, [], []⟩
def d_Talk_heard_of : He.DefD := ⟨("Talk", some "heard_of"), "heard_of", "Talk.heard_of", defArgs s_Talk_heard_of, defBody s_Talk_heard_of, defScope s_Talk_heard_of, [], []⟩
def d_Talk_heard : He.DefD := ⟨("Talk", some "heard"), "heard", "Talk.heard", defArgs s_Talk_heard, defBody s_Talk_heard, defScope s_Talk_heard, [], []⟩
def d_Talk_circles : He.DefD := ⟨("Talk", some "circles"), "circles", "Talk.circles", defArgs s_Talk_circles, defBody s_Talk_circles, defScope s_Talk_circles, [], []⟩
def d_Talk_need_both : He.DefD := ⟨("Talk", some "need_both"), "need_both", "Talk.need_both", defArgs s_Talk_need_both, defBody s_Talk_need_both, defScope s_Talk_need_both, [], []⟩
def d_Talk_door : He.DefD := ⟨("Talk", some "door"), "door", "Talk.door", defArgs s_Talk_door, defBody s_Talk_door, defScope s_Talk_door, [], []⟩
def d_Talk_since : He.DefD := ⟨("Talk", some "since"), "since", "Talk.since", defArgs s_Talk_since, defBody s_Talk_since, defScope s_Talk_since, [], []⟩
def fn : List He.DefD := [d_is_whole, d_is_number, d_is_word, d_are_words, d_is_speech, d_words_of, d_by_first, d_turned, d_without, d_first_half, d_last_half, d_is_row, d_need_rows, d_laid, d_shortest, d_alike, d_which_first, d_which_last, d_sent_back, d_frozen, d_sketched, d_first_halves, d_comes_on, d_behind_last, d_way_on, d_on, d_is_shut, d_open_row, d_shut_ear, d_door_doors, d_need, d_need_room, d_least_so, d_Lbag, d_Ltake, d_Ltongue, d_Lspeech, d_Lfirsts, d_Llasts, d_Llaid, d_Lshort, d_Llike, d_Lstand, d_Lhealed, d_law, d_House_init, d_Sketch_init, d_Sketch_house, d_Talk_init, d_Talk_begin, d_Talk_need_listener, d_Talk_come, d_Talk_say, d_Talk_tell, d_Talk_said, d_Talk_heard_of, d_Talk_heard, d_Talk_circles, d_Talk_need_both, d_Talk_door, d_Talk_since]
def fa : List He.Fa := [.glo "is_whole", .glo "is_number", .glo "is_word", .glo "are_words", .glo "is_speech", .glo "words_of", .glo "by_first", .glo "turned", .glo "without", .glo "first_half", .glo "last_half", .glo "is_row", .glo "need_rows", .glo "laid", .glo "shortest", .glo "alike", .glo "which_first", .glo "which_last", .glo "sent_back", .glo "frozen", .glo "sketched", .glo "first_halves", .glo "comes_on", .glo "behind_last", .glo "way_on", .glo "on", .glo "is_shut", .glo "open_row", .glo "shut_ear", .glo "door_doors", .glo "need", .glo "need_room", .glo "least_so", .glo "_law_bag", .glo "_law_take", .glo "_law_tongue", .glo "_law_speech", .glo "_law_firsts", .glo "_law_lasts", .glo "_law_laid", .glo "_law_short", .glo "_law_like", .glo "_law_stand", .glo "_law_healed", .glo "law", .glo "House", .glo "Sketch", .glo "Talk", .free "len", .free "isinstance", .free "int", .free "bool", .free "str", .free "all", .free "list", .free "set", .free "sorted", .free "min", .free "max", .free "range", .free "dict", .free "zip", .free "enumerate", .free "tuple", .free "abs", .int "MOST_LETTERS" 8, .int "MOST_WORDS" 6, .int "MOST_SAID" 300, .int "MOST_ROOMS" 12, .int "MOST_BY_BREADTH" 4, .int "MOST_LISTENERS" 8, .str "LETTERS" "abcdefghijklmnopqrstuvwxyz", .cls "House", .mkr "House", .cls "Sketch", .mkr "Sketch", .cls "Talk", .mkr "Talk", .noat "House" "row_tuples", .noat "House" "by_word", .noat "Sketch" "ways", .noat "Sketch" "size", .noat "Sketch" "room", .noat "Sketch" "ends", .noat "Sketch" "still", .noat "Talk" "spoken", .noat "Talk" "seats", .noat "Talk" "past", .noat "Talk" "coming", .meth "Sketch" "house", .meth "Talk" "begin", .meth "Talk" "need_listener", .meth "Talk" "come", .meth "Talk" "say", .meth "Talk" "tell", .meth "Talk" "said", .meth "Talk" "heard_of", .meth "Talk" "heard", .meth "Talk" "circles", .meth "Talk" "need_both", .meth "Talk" "door", .meth "Talk" "since"]
def tf : List He.Defn := [("Talk", some "since")]
def loose0 : List Str := ["_wall", "SaidError", "Wrong", "TooMany", "TooLong", "NoWords", "NoWay", "BadHouse", "NoWord", "Known", "NoListener", "Unlike", "Nothing", "LETTERS", "MOST_LETTERS", "MOST_WORDS", "MOST_SAID", "is_whole", "is_number", "is_word", "are_words", "is_speech", "words_of", "by_first", "turned", "without", "first_half", "last_half", "MOST_ROOMS", "is_row"]
def loose1 : List Str := ["need_rows", "House", "laid", "shortest", "alike", "Sketch", "which_first", "which_last", "sent_back", "frozen", "sketched", "first_halves", "comes_on", "behind_last", "way_on", "on", "MOST_BY_BREADTH", "is_shut", "fewest_row", "open_row", "shut_ear", "door", "door_doors", "MOST_LISTENERS", "need", "need_room", "least_so", "Talk", "_law_bag", "_law_take"]
def loose2 : List Str := ["_law_tongue", "_law_speech", "_law_firsts", "_law_lasts", "_law_laid", "_law_short", "_law_like", "_law_stand", "_law_healed"]
def looseN : List Str := loose0 ++ loose1 ++ loose2
/-! ### slots -/
abbrev N_is_whole : List Str := ["thing"]
theorem sc_is_whole : FnScope N_is_whole ["thing"] (defScope s_is_whole) := ⟨rfl, rfl, rfl, by decide +kernel, rfl, by decide +kernel, by decide +kernel⟩
abbrev N_is_number : List Str := ["thing"]
theorem sc_is_number : FnScope N_is_number ["thing"] (defScope s_is_number) := ⟨rfl, rfl, rfl, by decide +kernel, rfl, by decide +kernel, by decide +kernel⟩
abbrev N_is_word : List Str := ["thing", "sign"]
theorem sc_is_word : FnScope N_is_word ["thing"] (defScope s_is_word) := ⟨rfl, rfl, rfl, by decide +kernel, rfl, by decide +kernel, by decide +kernel⟩
abbrev N_are_words : List Str := ["thing", "one"]
theorem sc_are_words : FnScope N_are_words ["thing"] (defScope s_are_words) := ⟨rfl, rfl, rfl, by decide +kernel, rfl, by decide +kernel, by decide +kernel⟩
abbrev N_is_speech : List Str := ["thing", "one"]
theorem sc_is_speech : FnScope N_is_speech ["thing"] (defScope s_is_speech) := ⟨rfl, rfl, rfl, by decide +kernel, rfl, by decide +kernel, by decide +kernel⟩
abbrev N_words_of : List Str := ["speech"]
theorem sc_words_of : FnScope N_words_of ["speech"] (defScope s_words_of) := ⟨rfl, rfl, rfl, by decide +kernel, rfl, by decide +kernel, by decide +kernel⟩
abbrev N_by_first : List Str := ["speech", "found", "word"]
theorem sc_by_first : FnScope N_by_first ["speech"] (defScope s_by_first) := ⟨rfl, rfl, rfl, by decide +kernel, rfl, by decide +kernel, by decide +kernel⟩
abbrev N_turned : List Str := ["speech"]
theorem sc_turned : FnScope N_turned ["speech"] (defScope s_turned) := ⟨rfl, rfl, rfl, by decide +kernel, rfl, by decide +kernel, by decide +kernel⟩
abbrev N_without : List Str := ["speech", "words", "word"]
theorem sc_without : FnScope N_without ["speech", "words"] (defScope s_without) := ⟨rfl, rfl, rfl, by decide +kernel, rfl, by decide +kernel, by decide +kernel⟩
abbrev N_first_half : List Str := ["speech", "word"]
theorem sc_first_half : FnScope N_first_half ["speech"] (defScope s_first_half) := ⟨rfl, rfl, rfl, by decide +kernel, rfl, by decide +kernel, by decide +kernel⟩
abbrev N_last_half : List Str := ["speech", "ahead", "word"]
theorem sc_last_half : FnScope N_last_half ["speech"] (defScope s_last_half) := ⟨rfl, rfl, rfl, by decide +kernel, rfl, by decide +kernel, by decide +kernel⟩
abbrev N_is_row : List Str := ["thing", "rooms", "room"]
theorem sc_is_row : FnScope N_is_row ["thing"] (defScope s_is_row) := ⟨rfl, rfl, rfl, by decide +kernel, rfl, by decide +kernel, by decide +kernel⟩
abbrev N_need_rows : List Str := ["rows", "told", "at", "row"]
theorem sc_need_rows : FnScope N_need_rows ["rows"] (defScope s_need_rows) := ⟨rfl, rfl, rfl, by decide +kernel, rfl, by decide +kernel, by decide +kernel⟩
abbrev N_laid : List Str := ["one", "other", "many"]
theorem sc_laid : FnScope N_laid ["one", "other"] (defScope s_laid) := ⟨rfl, rfl, rfl, by decide +kernel, rfl, by decide +kernel, by decide +kernel⟩
abbrev N_shortest : List Str := ["speech", "ahead", "first", "last", "behind"]
theorem sc_shortest : FnScope N_shortest ["speech"] (defScope s_shortest) := ⟨rfl, rfl, rfl, by decide +kernel, rfl, by decide +kernel, by decide +kernel⟩
abbrev N_alike : List Str := ["one", "other"]
theorem sc_alike : FnScope N_alike ["one", "other"] (defScope s_alike) := ⟨rfl, rfl, rfl, by decide +kernel, rfl, by decide +kernel, by decide +kernel⟩
abbrev N_which_first : List Str := ["one", "other"]
theorem sc_which_first : FnScope N_which_first ["one", "other"] (defScope s_which_first) := ⟨rfl, rfl, rfl, by decide +kernel, rfl, by decide +kernel, by decide +kernel⟩
abbrev N_which_last : List Str := ["one", "other"]
theorem sc_which_last : FnScope N_which_last ["one", "other"] (defScope s_which_last) := ⟨rfl, rfl, rfl, by decide +kernel, rfl, by decide +kernel, by decide +kernel⟩
abbrev N_sent_back : List Str := ["sketch", "word", "leads"]
theorem sc_sent_back : FnScope N_sent_back ["sketch", "word"] (defScope s_sent_back) := ⟨rfl, rfl, rfl, by decide +kernel, rfl, by decide +kernel, by decide +kernel⟩
abbrev N_frozen : List Str := ["sketch", "word", "first", "second", "keeps", "leads", "other", "rooms", "room"]
theorem sc_frozen : FnScope N_frozen ["sketch", "word"] (defScope s_frozen) := ⟨rfl, rfl, rfl, by decide +kernel, rfl, by decide +kernel, by decide +kernel⟩
abbrev N_sketched : List Str := ["one", "other", "ahead", "first", "ahead_there", "first_there", "last", "behind", "last_there", "behind_there"]
theorem sc_sketched : FnScope N_sketched ["one", "other"] (defScope s_sketched) := ⟨rfl, rfl, rfl, by decide +kernel, rfl, by decide +kernel, by decide +kernel⟩
abbrev N_first_halves : List Str := ["speech", "word"]
theorem sc_first_halves : FnScope N_first_halves ["speech"] (defScope s_first_halves) := ⟨rfl, rfl, rfl, by decide +kernel, rfl, by decide +kernel, by decide +kernel⟩
abbrev N_comes_on : List Str := ["u", "v"]
theorem sc_comes_on : FnScope N_comes_on ["u", "v"] (defScope s_comes_on) := ⟨rfl, rfl, rfl, by decide +kernel, rfl, by decide +kernel, by decide +kernel⟩
abbrev N_behind_last : List Str := ["speech", "word", "back"]
theorem sc_behind_last : FnScope N_behind_last ["speech", "word"] (defScope s_behind_last) := ⟨rfl, rfl, rfl, by decide +kernel, rfl, by decide +kernel, by decide +kernel⟩
abbrev N_way_on : List Str := ["u", "v", "ahead", "first", "last", "behind", "rest"]
theorem sc_way_on : FnScope N_way_on ["u", "v"] (defScope s_way_on) := ⟨rfl, rfl, rfl, by decide +kernel, rfl, by decide +kernel, by decide +kernel⟩
abbrev N_on : List Str := ["u", "v"]
theorem sc_on : FnScope N_on ["u", "v"] (defScope s_on) := ⟨rfl, rfl, rfl, by decide +kernel, rfl, by decide +kernel, by decide +kernel⟩
abbrev N_is_shut : List Str := ["one", "other"]
theorem sc_is_shut : FnScope N_is_shut ["one", "other"] (defScope s_is_shut) := ⟨rfl, rfl, rfl, by decide +kernel, rfl, by decide +kernel, by decide +kernel⟩
abbrev N_open_row : List Str := ["one", "other", "words"]
theorem sc_open_row : FnScope N_open_row ["one", "other"] (defScope s_open_row) := ⟨rfl, rfl, rfl, by decide +kernel, rfl, by decide +kernel, by decide +kernel⟩
abbrev N_shut_ear : List Str := ["one", "other", "words", "word", "ahead", "there", "beside", "sketch"]
theorem sc_shut_ear : FnScope N_shut_ear ["one", "other"] (defScope s_shut_ear) := ⟨rfl, rfl, rfl, by decide +kernel, rfl, by decide +kernel, by decide +kernel⟩
abbrev N_door_doors : List Str := ["one", "other", "house", "room"]
theorem sc_door_doors : FnScope N_door_doors ["one", "other"] (defScope s_door_doors) := ⟨rfl, rfl, rfl, by decide +kernel, rfl, by decide +kernel, by decide +kernel⟩
abbrev N_need : List Str := ["truths", "at", "truth"]
theorem sc_need : FnScope N_need ["truths"] (defScope s_need) := ⟨rfl, rfl, rfl, by decide +kernel, rfl, by decide +kernel, by decide +kernel⟩
abbrev N_need_room : List Str := ["said", "more"]
theorem sc_need_room : FnScope N_need_room ["said", "more"] (defScope s_need_room) := ⟨rfl, rfl, rfl, by decide +kernel, rfl, by decide +kernel, by decide +kernel⟩
abbrev N_least_so : List Str := ["low", "high", "is_so", "middle"]
theorem sc_least_so : FnScope N_least_so ["low", "high", "is_so"] (defScope s_least_so) := ⟨rfl, rfl, rfl, by decide +kernel, rfl, by decide +kernel, by decide +kernel⟩
abbrev N_Lbag : List Str := ["_law_script", "_law_cell"]
theorem sc_Lbag : FnScope N_Lbag ["_law_script"] (defScope s_Lbag) := ⟨rfl, rfl, rfl, by decide +kernel, rfl, by decide +kernel, by decide +kernel⟩
abbrev N_Ltake : List Str := ["_law_bag_here", "_law_many", "_law_first", "_law_second", "_law_cell", "_law_value"]
theorem sc_Ltake : FnScope N_Ltake ["_law_bag_here", "_law_many"] (defScope s_Ltake) := ⟨rfl, rfl, rfl, by decide +kernel, rfl, by decide +kernel, by decide +kernel⟩
abbrev N_Ltongue : List Str := ["_law_bag_here", "_law_many", "_law_letters", "_law_base", "_law_at", "_law_turn", "_law_way", "_law_k"]
theorem sc_Ltongue : FnScope N_Ltongue ["_law_bag_here", "_law_many"] (defScope s_Ltongue) := ⟨rfl, rfl, rfl, by decide +kernel, rfl, by decide +kernel, by decide +kernel⟩
abbrev N_Lspeech : List Str := ["_law_bag_here", "_law_words", "_law_most", "_law_found", "_law_k", "_law_at", "_law_piece"]
theorem sc_Lspeech : FnScope N_Lspeech ["_law_bag_here", "_law_words", "_law_most"] (defScope s_Lspeech) := ⟨rfl, rfl, rfl, by decide +kernel, rfl, by decide +kernel, by decide +kernel⟩
abbrev N_Lfirsts : List Str := ["_law_speech_here", "_law_found", "_law_word"]
theorem sc_Lfirsts : FnScope N_Lfirsts ["_law_speech_here"] (defScope s_Lfirsts) := ⟨rfl, rfl, rfl, by decide +kernel, rfl, by decide +kernel, by decide +kernel⟩
abbrev N_Llasts : List Str := ["_law_speech_here"]
theorem sc_Llasts : FnScope N_Llasts ["_law_speech_here"] (defScope s_Llasts) := ⟨rfl, rfl, rfl, by decide +kernel, rfl, by decide +kernel, by decide +kernel⟩
abbrev N_Llaid : List Str := ["_law_one", "_law_other", "_law_k"]
theorem sc_Llaid : FnScope N_Llaid ["_law_one", "_law_other"] (defScope s_Llaid) := ⟨rfl, rfl, rfl, by decide +kernel, rfl, by decide +kernel, by decide +kernel⟩
abbrev N_Lshort : List Str := ["_law_speech_here", "_law_a", "_law_b", "_law_front", "_law_behind"]
theorem sc_Lshort : FnScope N_Lshort ["_law_speech_here"] (defScope s_Lshort) := ⟨rfl, rfl, rfl, by decide +kernel, rfl, by decide +kernel, by decide +kernel⟩
abbrev N_Llike : List Str := ["_law_one", "_law_other"]
theorem sc_Llike : FnScope N_Llike ["_law_one", "_law_other"] (defScope s_Llike) := ⟨rfl, rfl, rfl, by decide +kernel, rfl, by decide +kernel, by decide +kernel⟩
abbrev N_Lstand : List Str := ["_law_one", "_law_other"]
theorem sc_Lstand : FnScope N_Lstand ["_law_one", "_law_other"] (defScope s_Lstand) := ⟨rfl, rfl, rfl, by decide +kernel, rfl, by decide +kernel, by decide +kernel⟩
abbrev N_Lhealed : List Str := ["_law_talk", "_law_row", "_law_bag_here", "_law_words", "_law_many", "_law_k"]
theorem sc_Lhealed : FnScope N_Lhealed ["_law_talk", "_law_row", "_law_bag_here", "_law_words"] (defScope s_Lhealed) := ⟨rfl, rfl, rfl, by decide +kernel, rfl, by decide +kernel, by decide +kernel⟩
abbrev N_law : List Str := ["_law_script", "_law_bag_here", "_law_words", "_law_talk", "_law_said", "_law_begins", "_law_name", "_law_word", "_law_told", "_law_k", "_law_some", "_law_more", "_law_elder"]
theorem sc_law : FnScope N_law ["_law_script"] (defScope s_law) := ⟨rfl, rfl, rfl, by decide +kernel, rfl, by decide +kernel, by decide +kernel⟩
abbrev N_House_init : List Str := ["self", "rows", "word", "rooms"]
theorem sc_House_init : FnScope N_House_init ["self", "rows"] (defScope s_House_init) := ⟨rfl, rfl, rfl, by decide +kernel, rfl, by decide +kernel, by decide +kernel⟩
abbrev N_Sketch_init : List Str := ["self", "ways", "size", "room", "ends", "still"]
theorem sc_Sketch_init : FnScope N_Sketch_init ["self", "ways", "size", "room", "ends", "still"] (defScope s_Sketch_init) := ⟨rfl, rfl, rfl, by decide +kernel, rfl, by decide +kernel, by decide +kernel⟩
abbrev N_Sketch_house : List Str := ["self", "words", "word"]
theorem sc_Sketch_house : FnScope N_Sketch_house ["self", "words"] (defScope s_Sketch_house) := ⟨rfl, rfl, rfl, by decide +kernel, rfl, by decide +kernel, by decide +kernel⟩
abbrev N_Talk_init : List Str := ["self"]
theorem sc_Talk_init : FnScope N_Talk_init ["self"] (defScope s_Talk_init) := ⟨rfl, rfl, rfl, by decide +kernel, rfl, by decide +kernel, by decide +kernel⟩
abbrev N_Talk_begin : List Str := ["self", "spoken", "seats"]
theorem sc_Talk_begin : FnScope N_Talk_begin ["self", "spoken", "seats"] (defScope s_Talk_begin) := ⟨rfl, rfl, rfl, by decide +kernel, rfl, by decide +kernel, by decide +kernel⟩
abbrev N_Talk_need_listener : List Str := ["self", "name"]
theorem sc_Talk_need_listener : FnScope N_Talk_need_listener ["self", "name"] (defScope s_Talk_need_listener) := ⟨rfl, rfl, rfl, by decide +kernel, rfl, by decide +kernel, by decide +kernel⟩
abbrev N_Talk_come : List Str := ["self", "name", "deaf", "seats"]
theorem sc_Talk_come : FnScope N_Talk_come ["self", "name", "deaf"] (defScope s_Talk_come) := ⟨rfl, rfl, rfl, by decide +kernel, rfl, by decide +kernel, by decide +kernel⟩
abbrev N_Talk_say : List Str := ["self", "word"]
theorem sc_Talk_say : FnScope N_Talk_say ["self", "word"] (defScope s_Talk_say) := ⟨rfl, rfl, rfl, by decide +kernel, rfl, by decide +kernel, by decide +kernel⟩
abbrev N_Talk_tell : List Str := ["self", "speech"]
theorem sc_Talk_tell : FnScope N_Talk_tell ["self", "speech"] (defScope s_Talk_tell) := ⟨rfl, rfl, rfl, by decide +kernel, rfl, by decide +kernel, by decide +kernel⟩
abbrev N_Talk_said : List Str := ["self"]
theorem sc_Talk_said : FnScope N_Talk_said ["self"] (defScope s_Talk_said) := ⟨rfl, rfl, rfl, by decide +kernel, rfl, by decide +kernel, by decide +kernel⟩
abbrev N_Talk_heard_of : List Str := ["self", "name", "many", "since", "deaf"]
theorem sc_Talk_heard_of : FnScope N_Talk_heard_of ["self", "name", "many"] (defScope s_Talk_heard_of) := ⟨rfl, rfl, rfl, by decide +kernel, rfl, by decide +kernel, by decide +kernel⟩
abbrev N_Talk_heard : List Str := ["self", "name"]
theorem sc_Talk_heard : FnScope N_Talk_heard ["self", "name"] (defScope s_Talk_heard) := ⟨rfl, rfl, rfl, by decide +kernel, rfl, by decide +kernel, by decide +kernel⟩
abbrev N_Talk_circles : List Str := ["self", "found", "name", "names"]
theorem sc_Talk_circles : FnScope N_Talk_circles ["self"] (defScope s_Talk_circles) := ⟨rfl, rfl, rfl, by decide +kernel, rfl, by decide +kernel, by decide +kernel⟩
abbrev N_Talk_need_both : List Str := ["self", "name", "other"]
theorem sc_Talk_need_both : FnScope N_Talk_need_both ["self", "name", "other"] (defScope s_Talk_need_both) := ⟨rfl, rfl, rfl, by decide +kernel, rfl, by decide +kernel, by decide +kernel⟩
abbrev N_Talk_door : List Str := ["self", "name", "other", "many"]
theorem sc_Talk_door : FnScope N_Talk_door ["self", "name", "other"] (defScope s_Talk_door) := ⟨rfl, rfl, rfl, by decide +kernel, rfl, by decide +kernel, by decide +kernel⟩
abbrev N_Talk_since : List Str := ["self", "name", "other", "many", "low"]
theorem sc_Talk_since : FnScope N_Talk_since ["self", "name", "other"] (defScope s_Talk_since) := ⟨rfl, rfl, rfl, by decide +kernel, rfl, by decide +kernel, by decide +kernel⟩
/-! ### what the walk knows of the top -/
structure TX (K : PySem.W.Frag) (mg : Str → Option Value) : Prop where
  ex : ∃ h : Heap, K.In h ∧ h.Ns mainGlobals mg
  d : He.SaysD fa fn K
  deaf : deafB K = true
section
variable {P : Program} {w : World} {K : PySem.W.Frag} {mg : Str → Option Value} {base : Heap}
theorem TX.glo (T : TX K mg) (i : Nat) {x : Str} (h : fa[i]? = some (.glo x)) : mg x = some (.ref (He.ga K x)) :=
  let ⟨_, X, G⟩ := T.ex
  He.glo_ok X G (T.d.fact i h)
theorem TX.free (T : TX K mg) (i : Nat) {x : Str} (h : fa[i]? = some (.free x)) : mg x = none :=
  let ⟨_, X, G⟩ := T.ex
  He.free_ok X G (T.d.fact i h)
theorem TX.int (T : TX K mg) (i : Nat) {x : Str} {n : Int} (h : fa[i]? = some (.int x n)) : ∃ t, mg x = some (.int n t) :=
  let ⟨_, X, G⟩ := T.ex
  He.int_ok X G (T.d.fact i h)
theorem TX.str (T : TX K mg) (i : Nat) {x z : Str} (h : fa[i]? = some (.str x z)) : ∃ t, mg x = some (.str z t) :=
  let ⟨_, X, G⟩ := T.ex
  He.str_ok X G (T.d.fact i h)
/-- a global def and its promise -/
structure Cal (P : Program) (w : World) (K : PySem.W.Frag) (mg : Str → Option Value) (base : Heap) (k : Nat) (x : Str) (ps : List Str) (sp : Sp) : Prop where
  ex : ∃ fd, FnOk P w K mg base CX0 k (He.ga K x) fd ps sp ∧ Binds K fd ps []
  kp : PySem.W.keepIn K (.ref (He.ga K x)) = true
  mg : mg x = some (.ref (He.ga K x))
/-- a method and its promise -/
structure CalM (P : Program) (w : World) (K : PySem.W.Frag) (mg : Str → Option Value) (base : Heap) (k : Nat) (C m : Str) (ps : List Str) (sp : Sp) : Prop where
  ex : ∃ fd, FnOk P w K mg base CX0 k (He.ma K (He.ga K C) m) fd ps sp ∧ Binds K fd ps []
  cl : Cls K (He.ga K C)
  mt : Meth K (He.ga K C) m (He.ma K (He.ga K C) m)
/-- a class that is made, and its __init__'s promise -/
structure CalN (P : Program) (w : World) (K : PySem.W.Frag) (mg : Str → Option Value) (base : Heap) (k : Nat) (C : Str) (ps : List Str) (sp : Sp) : Prop where
  ex : ∃ fd, FnOk P w K mg base CX0 k (He.ma K (He.ga K C) "__init__") fd ps sp ∧ Binds K fd ps []
  mkr : Mk K (He.ga K C) (He.ma K (He.ga K C) "__init__")
  mg : mg C = some (.ref (He.ga K C))
theorem Cal.imp {k : Nat} {x : Str} {ps : List Str} {sp sp' : Sp} (c : Cal P w K mg base k x ps sp) (h : ∀ vs H Q E, sp' vs H Q E → sp vs H Q E) : Cal P w K mg base k x ps sp' :=
  let ⟨fd, F, b⟩ := c.ex
  ⟨⟨fd, F.imp h, b⟩, c.kp, c.mg⟩
theorem Cal.mono {j k : Nat} {x : Str} {ps : List Str} {sp : Sp} (c : Cal P w K mg base j x ps sp) (h : j ≤ k) : Cal P w K mg base k x ps sp :=
  let ⟨fd, F, b⟩ := c.ex
  ⟨⟨fd, F.mono h, b⟩, c.kp, c.mg⟩
section
variable {X : Cx} {k : Nat} {x m C : Str} {ps : List Str} {sp : Sp} {p pos apos : Pos} {e o : Expr} {es : List Expr} {t : TA} {ta : TE}
/-- f(e, ..) -/
theorem pc (c : Cal X.prog X.w X.K X.mg X.base k x ps sp) (hr : Room k X.A) (ha : PA X (e :: es) t) (hg : Gl X x := by rfl) (hdb : (x == ("__debug__" : Str)) = false := by decide) (he : starEach (e :: es) X.env = (false, eval e X.env) :: starEach es X.env := by rfl) (hpl : (backTo pos (starEach es X.env)).any (·.1) = false := by rfl) :
    PE X (.Call (.Name x p) (e :: es) [] pos) (tCall sp [] E0 t) :=
  let ⟨_, F, b⟩ := c.ex
  pe_call F hr hg c.mg c.kp b .nil pass0 ha hdb he hpl
/-- o.m(e, ..) -/
theorem pm {pl : Sem Bool} (he : PE X o ta) (c : CalM X.prog X.w X.K X.mg X.base k C m ps sp) (hr : Room k X.A) (ha : PA X (e :: es) t) (hst : starEach (e :: es) X.env = (false, eval e X.env) :: starEach es X.env := by rfl) (hpl : (backTo pos (starEach es X.env)).any (·.1) = false := by rfl)
    (ht : eval (.Call (.Attribute o m apos) (e :: es) [] pos) X.env = (do
      let q ← eval o X.env
      standAt apos.atName
      let (f, first) ← holding [q] (getMethod q m pl)
      callWith pos f first (backTo pos (starEach (e :: es) X.env)) (backToKw pos (keywordEach [] X.env))) := by rfl) :
    PE X (.Call (.Attribute o m apos) (e :: es) [] pos) (tMeth (He.ga X.K C) m sp [] E0 ta t) :=
  let ⟨_, F, b⟩ := c.ex
  pe_meth he c.cl c.mt F hr b .nil pass0 ha hst hpl ht
/-- o.m() -/
theorem pm0 {pl : Sem Bool} (he : PE X o ta) (c : CalM X.prog X.w X.K X.mg X.base k C m ps sp) (hr : Room k X.A)
    (ht : eval (.Call (.Attribute o m apos) [] [] pos) X.env = (do
      let q ← eval o X.env
      standAt apos.atName
      let (f, first) ← holding [q] (getMethod q m pl)
      callWith pos f first (backTo pos (starEach [] X.env)) (backToKw pos (keywordEach [] X.env))) := by rfl) :
    PE X (.Call (.Attribute o m apos) [] [] pos) (tMeth (He.ga X.K C) m sp [] E0 ta tNil) :=
  let ⟨_, F, b⟩ := c.ex
  pe_meth0 he c.cl c.mt F hr b .nil pass0 ht
/-- C(e, ..) -/
theorem pk (c : CalN X.prog X.w X.K X.mg X.base k C ps sp) (hr : Room (k + 1) X.A) (ha : PA X (e :: es) t) (hg : Gl X C := by rfl) (hdb : (C == ("__debug__" : Str)) = false := by decide) (he : starEach (e :: es) X.env = (false, eval e X.env) :: starEach es X.env := by rfl) (hpl : (backTo pos (starEach es X.env)).any (·.1) = false := by rfl) :
    PE X (.Call (.Name C p) (e :: es) [] pos) (tMake (He.ga X.K C) sp [] E0 t) :=
  let ⟨_, F, b⟩ := c.ex
  pe_make c.mkr F hr hg c.mg b .nil pass0 ha hdb he hpl
/-- C() -/
theorem pk0 (c : CalN X.prog X.w X.K X.mg X.base k C ps sp) (hr : Room (k + 1) X.A) (hg : Gl X C := by rfl) (hdb : (C == ("__debug__" : Str)) = false := by decide) :
    PE X (.Call (.Name C p) [] [] pos) (tMake (He.ga X.K C) sp [] E0 tNil) :=
  let ⟨_, F, b⟩ := c.ex
  pe_make0 c.mkr F hr hg c.mg b .nil pass0 hdb
end
/-- how the parameters of a def without defaults are bound -/
abbrev BindN (x qual : Str) (st : Stmt) (ps : List Str) : Prop := ∀ (kV doc pm : Value) (an : Option Addr) (cdv ct : Value) (us : List Value), us.length = ps.length → bindArgs (PySem.W.fnOf x qual (defArgs st) (defBody st) (defScope st) .none kV doc pm an cdv ct) ⟨us, []⟩ = pure (ps.zip us)
/-- a def's body keeps its promise -/
abbrev BodyOk (P : Program) (w : World) (K : PySem.W.Frag) (mg : Str → Option Value) (base : Heap) (N : List Str) (qual : Str) (st : Stmt) (f : Addr) (k : Nat) (sp : Sp) : Prop :=
  ∀ (cdv : Value) (A : Around) (outer : List Env) (s : Shared) (H : Hp) (vs : List V) (Q : VK) (E : XK), Room k (A.deeper (envOfC qual (defScope st) s.heap.objs.size f cdv)) → sp vs H Q E →
    ∃ t, PSs (cxOf CX0 P w K mg base N qual (defScope st) f cdv A outer s H E).nox (defBody st) t ∧ t { nx := fun _ H' => Q .non H', rt := Q } (start N vs) H
theorem mk_cal {x y : Str} {st : Stmt} {N ps : List Str} {k : Nat} {sp : Sp} (T : TX K mg) (i j : Nat) (hi : fn[i]? = some ⟨(x, none), y, y, defArgs st, defBody st, defScope st, [], []⟩) (hj : fa[j]? = some (.glo x)) (S : FnScope N ps (defScope st)) (hb : BindN y y st ps)
    (len : ∀ vs H Q E, sp vs H Q E → vs.length = ps.length) (body : BodyOk P w K mg base N y st (He.ga K x) k sp) : Cal P w K mg base (k + 1) x ps sp := by
  obtain ⟨fd, F⟩ := T.d.def_ i hi
  refine ⟨⟨fd, ?_, ?_⟩, F.kp, T.glo j hj⟩
  · refine FunD.ok F S len fun cdv A outer s H vs Q E hr h => ?_
    obtain ⟨t, h1, h2⟩ := body cdv A outer s H vs Q E hr h
    exact ⟨t, h1.nox, h2⟩
  · exact FunD.bindsN F hb
theorem mk_calM {C m q : Str} {st : Stmt} {N ps : List Str} {k : Nat} {sp : Sp} (T : TX K mg) (i j c : Nat) (hi : fn[i]? = some ⟨(C, some m), m, q, defArgs st, defBody st, defScope st, [], []⟩) (hj : fa[j]? = some (.meth C m)) (hc : fa[c]? = some (.cls C)) (S : FnScope N ps (defScope st)) (hb : BindN m q st ps)
    (len : ∀ vs H Q E, sp vs H Q E → vs.length = ps.length) (body : BodyOk P w K mg base N q st (He.ma K (He.ga K C) m) k sp) : CalM P w K mg base (k + 1) C m ps sp := by
  obtain ⟨fd, F⟩ := T.d.def_ i hi
  refine ⟨⟨fd, ?_, ?_⟩, He.cls_ok (T.d.fact c hc), He.meth_ok (T.d.fact j hj)⟩
  · refine FunD.ok F S len fun cdv A outer s H vs Q E hr h => ?_
    obtain ⟨t, h1, h2⟩ := body cdv A outer s H vs Q E hr h
    exact ⟨t, h1.nox, h2⟩
  · exact FunD.bindsN F hb
theorem mk_calN {C q : Str} {st : Stmt} {N ps : List Str} {k : Nat} {sp : Sp} (T : TX K mg) (i j g : Nat) (hi : fn[i]? = some ⟨(C, some "__init__"), "__init__", q, defArgs st, defBody st, defScope st, [], []⟩) (hj : fa[j]? = some (.mkr C)) (hg : fa[g]? = some (.glo C)) (S : FnScope N ps (defScope st)) (hb : BindN "__init__" q st ps)
    (len : ∀ vs H Q E, sp vs H Q E → vs.length = ps.length) (body : BodyOk P w K mg base N q st (He.ma K (He.ga K C) "__init__") k sp) : CalN P w K mg base (k + 1) C ps sp := by
  obtain ⟨fd, F⟩ := T.d.def_ i hi
  refine ⟨⟨fd, ?_, ?_⟩, He.mkr_ok (T.d.fact j hj), T.glo g hg⟩
  · refine FunD.ok F S len fun cdv A outer s H vs Q E hr h => ?_
    obtain ⟨t, h1, h2⟩ := body cdv A outer s H vs Q E hr h
    exact ⟨t, h1.nox, h2⟩
  · exact FunD.bindsN F hb
end
end Tw
end
section
/-! text H0 -/
set_option maxHeartbeats 0
namespace Tw
open PySem PySem.Spec PyProof.Rows L2 LamX
/-! the objects that the head leaves and the walk reads, by their addresses -/
def seen0 : List Addr := [3, 6, 4, 21, 31, 51, 70, 89, 108, 127, 146, 165, 184, 203, 222, 241, 250, 257, 262, 267, 272, 279, 286, 293, 298, 305, 312, 317, 324, 370, 381, 388, 395, 417, 428, 435, 442, 447, 454, 459]
def seen1 : List Addr := [466, 473, 480, 487, 494, 501, 508, 515, 522, 529, 536, 543, 698, 707, 714, 719, 724, 731, 738, 745, 752, 759, 766, 773, 780, 0, 20, 30, 50, 69, 88, 107, 126, 145, 164, 183, 202, 221, 240, 249]
def seen2 : List Addr := [256, 261, 266, 271, 278, 285, 292, 297, 304, 311, 316, 323, 369, 380, 387, 394, 416, 427, 434, 441, 446, 453, 458, 465, 472, 479, 486, 493, 500, 507, 514, 521, 528, 535, 542, 697, 706, 713, 718, 723]
def seen3 : List Addr := [730, 737, 744, 751, 758, 765, 772, 779, 15, 16, 17, 18, 19, 29, 32, 48, 49, 67, 68, 86, 87, 105, 106, 124, 125, 143, 144, 162, 163, 181, 182, 200, 201, 219, 220, 238, 239, 244, 245, 246]
def seen4 : List Addr := [247, 248, 251, 252, 253, 254, 255, 258, 259, 260, 263, 264, 265, 268, 269, 270, 273, 274, 275, 276, 277, 280, 281, 282, 283, 284, 287, 288, 289, 290, 291, 294, 295, 296, 299, 300, 301, 302, 303, 306]
def seen5 : List Addr := [307, 308, 309, 310, 313, 314, 315, 318, 319, 320, 321, 322, 336, 341, 348, 355, 362, 367, 368, 371, 372, 375, 376, 377, 378, 379, 382, 383, 384, 385, 386, 389, 390, 391, 392, 393, 409, 414, 415, 418]
def seen6 : List Addr := [419, 422, 423, 424, 425, 426, 429, 430, 431, 432, 433, 436, 437, 438, 439, 440, 443, 444, 445, 448, 449, 450, 451, 452, 455, 456, 457, 460, 461, 462, 463, 464, 467, 468, 469, 470, 471, 474, 475, 476]
def seen7 : List Addr := [477, 478, 481, 482, 483, 484, 485, 488, 489, 490, 491, 492, 495, 496, 497, 498, 499, 502, 503, 504, 505, 506, 509, 510, 511, 512, 513, 516, 517, 518, 519, 520, 523, 524, 525, 526, 527, 530, 531, 532]
def seen8 : List Addr := [533, 534, 537, 538, 539, 540, 541, 557, 564, 571, 580, 587, 594, 601, 608, 615, 622, 629, 636, 641, 648, 655, 660, 667, 674, 681, 688, 695, 696, 699, 700, 703, 704, 705, 708, 709, 710, 711, 712, 715]
def seen9 : List Addr := [716, 717, 720, 721, 722, 725, 726, 727, 728, 729, 732, 733, 734, 735, 736, 739, 740, 741, 742, 743, 746, 747, 748, 749, 750, 753, 754, 755, 756, 757, 760, 761, 762, 763, 764, 767, 768, 769, 770, 771]
def seen10 : List Addr := [774, 775, 776, 777, 778, 47, 66, 85, 104, 123, 142, 161, 180, 199, 218, 237, 335, 340, 347, 354, 361, 366, 408, 413, 556, 563, 570, 579, 573, 586, 593, 600, 607, 614, 621, 628, 635, 640, 647, 654]
def seen11 : List Addr := [659, 666, 673, 680, 687, 694, 42, 43, 44, 45, 46, 61, 62, 63, 64, 65, 80, 81, 82, 83, 84, 99, 100, 101, 102, 103, 118, 119, 120, 121, 122, 137, 138, 139, 140, 141, 156, 157, 158, 159]
def seen12 : List Addr := [160, 175, 176, 177, 178, 179, 194, 195, 196, 197, 198, 213, 214, 215, 216, 217, 232, 233, 234, 235, 236, 332, 333, 334, 337, 338, 339, 342, 343, 344, 345, 346, 349, 350, 351, 352, 353, 356, 357, 358]
def seen13 : List Addr := [359, 360, 363, 364, 365, 403, 404, 405, 406, 407, 410, 411, 412, 551, 552, 553, 554, 555, 558, 559, 560, 561, 562, 565, 566, 567, 568, 569, 574, 575, 576, 577, 578, 572, 581, 582, 583, 584, 585, 588]
def seen14 : List Addr := [589, 590, 591, 592, 595, 596, 597, 598, 599, 602, 603, 604, 605, 606, 609, 610, 611, 612, 613, 616, 617, 618, 619, 620, 623, 624, 625, 626, 627, 630, 631, 632, 633, 634, 637, 638, 639, 642, 643, 644]
def seen15 : List Addr := [645, 646, 649, 650, 651, 652, 653, 656, 657, 658, 661, 662, 663, 664, 665, 668, 669, 670, 671, 672, 675, 676, 677, 678, 679, 682, 683, 684, 685, 686, 689, 690, 691, 692, 693]
def seenL : List Addr := seen0 ++ (seen1 ++ (seen2 ++ (seen3 ++ (seen4 ++ (seen5 ++ (seen6 ++ (seen7 ++ (seen8 ++ (seen9 ++ (seen10 ++ (seen11 ++ (seen12 ++ (seen13 ++ (seen14 ++ (seen15)))))))))))))))
abbrev R : PySem.W.OpenRow := PySem.W.OpenLaw.row PySem.Challenge.rw_twicesaid_k02_whole_door_by_growing_talk
/-- what is read off a heap: the written addresses alone, nothing sought -/
def readL (g : Addr → Option Obj) : He.AlX := (fun K : PySem.W.Frag => (He.obsT fa fn [] K, deafB K && He.tabsB g tf K)) (He.frT g seenL)
theorem readL_says {w : World} {h : Heap} (e : readL h.get? = He.valX fn [] w) : He.SaysX fa fn [] tf deafB w h (He.frT h.get? seenL) := by
  obtain ⟨facts, rest⟩ := Prod.ext_iff.mp e
  have rest' := Bool.and_eq_true_iff.mp rest
  have tabs : ∀ p ∈ tf, PySem.W.codeHdIn (He.frT h.get? seenL) (He.cT (He.frT h.get? seenL) p).1 (He.cT (He.frT h.get? seenL) p).2 = true ∧ ∃ t : Obj, h.get? (He.cT (He.frT h.get? seenL) p).2 = some t ∧ He.emptyTab t = true := by
    intro p hp
    have one := Bool.and_eq_true_iff.mp (List.all_eq_true.mp rest'.2 p hp)
    cases got : h.get? (He.cT (He.frT h.get? seenL) p).2 with
    | none => have bad := one.2; rw [got] at bad; exact absurd bad (by decide)
    | some t => have good := one.2; rw [got] at good; exact ⟨one.1, t, rfl, good⟩
  constructor
  · exact facts
  · exact rest'.1
  · intro p hp; exact (tabs p hp).1
  · intro p hp
    obtain ⟨t, got, em⟩ := (tabs p hp).2
    exact He.frT_none got em
  · intro p hp
    obtain ⟨t, got, em⟩ := (tabs p hp).2
    exact got.trans (congrArg some (He.emptyTab_eq em))
abbrev hk : PySem.W.Hook := ⟨He.AlX, fun s => readL s.heap.get?, fun w => He.valX fn [] w, fun w h => ∃ K : PySem.W.Frag, K.In h ∧ He.SaysX fa fn [] tf deafB w h K, fun _ _ e => ⟨_, He.frT_in, readL_says e⟩, (He.hookX 6 fa fn [] tf deafB).keeps⟩
def ob (s : PySem.W.SharedT) : He.AlX := readL (HandSHeadRun.getT s)
theorem ob_eq (s : PySem.W.SharedT) : ob s = hk.obs s.abs := congrArg readL (funext (HandSHeadRun.getT_eq s))
theorem run (w : World) : HandSHeadRun.RunEq R (PySem.W.view R.prog [81]) hk ob 7000 looseN w := by
  intro os
  kernel_rfl
end Tw
end
section
/-! text W0 -/
set_option maxHeartbeats 4000000
namespace Tw
open PySem PySem.Spec PyProof.Rows L2
/-! ### small words of the walk -/
theorem same_new {H : Hp} {p : Addr} {o : HO} (h : H p = none) : Same H (upd H p o) := fun b x e => by
  rw [upd_ne (ne_of_none e h)]; exact e
theorem _root_.L2.Same.new {H H2 : Hp} {p : Addr} {o : HO} (s : Same H H2) (h : H2 p = none) : Same H (upd H2 p o) := fun b x e => same_new h b x (s b x e)
/-- what was free and is not the new one's place is written -/
theorem _root_.L2.Same.put {H H2 : Hp} {p : Addr} {o : HO} (s : Same H H2) (h : H p = none) : Same H (upd H2 p o) := fun b x e => by
  rw [upd_ne (ne_of_none e h)]; exact s b x e
/-- a list of texts at a -/
abbrev LS (H : Hp) (a : Addr) (ws : List Str) : Prop := H a = some (.lst (ws.map V.str))
theorem inV_str (w : Str) (ws : List Str) : inV (.str w) (ws.map V.str) = decide (w ∈ ws) := by
  induction ws with
  | nil => rfl
  | cons x ws ih =>
    have e : inV (.str w) ((x :: ws).map V.str) = ((x == w) || inV (.str w) (ws.map V.str)) := rfl
    rw [e, ih]
    by_cases h : x = w
    · subst h; simp
    · have h' : w ≠ x := fun q => h q.symm
      simp [h, h']
theorem flat_strs (ws : List Str) : (ws.map V.str).all flatV = true := by
  rw [List.all_map]; exact List.all_eq_true.mpr fun _ _ => rfl
theorem map_at {α : Type} {f : α → V} {ws : List α} {i : Nat} {x : V} (h : (ws.map f)[i]? = some x) : ∃ w, ws[i]? = some w ∧ x = f w := by
  rw [List.getElem?_map] at h
  cases e : ws[i]? with
  | none => rw [e] at h; cases h
  | some w => rw [e] at h; exact ⟨w, rfl, (Option.some.inj h).symm⟩
theorem at_map {α : Type} {f : α → V} {ws : List α} {i : Nat} {w : α} (h : ws[i]? = some w) : (ws.map f)[i]? = some (f w) := by
  rw [List.getElem?_map, h]; rfl
theorem take_succ {α : Type} {l : List α} {i : Nat} {x : α} (h : l[i]? = some x) : l.take (i + 1) = l.take i ++ [x] := by
  rw [List.take_add_one, h]; rfl
theorem small_line {n : Nat} (h : n ≤ 100000) : n ≤ sizeLine := by rw [sizeLine_eq]; omega
theorem small_line' {n : Nat} (h : n ≤ 100000) : n < sizeLine := by rw [sizeLine_eq]; omega
/-- texts by their values -/
theorem strs_at : ∀ {ws : List Str} {us : List Value} {j : Nat} {u : Value}, Vals (ws.map V.str) us → us[j]? = some u → ∃ t, u = .str (ws.getD j Str.empty) t
  | [], _, _, _, .nil, e => by cases e
  | x :: ws, _, 0, _, .cons r _, e => by
    obtain ⟨t, h⟩ := r
    have e2 := Option.some.inj e
    exact ⟨t, e2.symm.trans h⟩
  | x :: ws, _, j + 1, _, .cons _ r, e => strs_at (ws := ws) (j := j) r e
theorem all_getD (ws vs : List Str) (h : ws.length = vs.length) : ((List.range ws.length).all fun j => ws.getD j Str.empty == vs.getD j Str.empty) = decide (ws = vs) := by
  by_cases e : ws = vs
  · subst e
    rw [decide_eq_true rfl]
    exact List.all_eq_true.mpr fun j _ => beq_self_eq_true _
  · rw [decide_eq_false e]
    cases q : (List.range ws.length).all fun j => ws.getD j Str.empty == vs.getD j Str.empty with
    | false => rfl
    | true =>
      exfalso
      apply e
      have q2 := List.all_eq_true.mp q
      refine List.ext_getElem h fun j h1 h2 => ?_
      have := q2 j (List.mem_range.mpr h1)
      rw [beq_iff_eq] at this
      simpa [List.getD_eq_getElem?_getD, h1, h2] using this
section
variable {X : Cx}
/-- two lists of texts -/
def rTwoS (f : Bool → Bool) (K : PySem.W.Frag) : R2 := fun x y H Q => ∃ (a b : Addr) (ws vs : List Str), x = .ref a ∧ y = .ref b ∧ SqL K H a (ws.map V.str) ∧ SqL K H b (vs.map V.str) ∧ Q (.bl (f (decide (ws = vs)))) H
theorem twoS {f : Bool → Bool} {op : CmpOp} (h1 : ∀ {s : Shared} {l b : Addr} {xs ys : Array Value} {e : Nat → Bool} {Q E : Value → Shared → Prop}, s.heap.IsList l xs → s.heap.IsList b ys → xs.size = ys.size → (∀ j (h1 : j < xs.size) (h2 : j < ys.size), SeqAt.EqAt X.A.in1 s xs[j] ys[j] (e j)) →
      Q (.bool (f ((List.range xs.size).all e))) s → wpAny (model X.prog X.w) X.A (compareOp op (.ref l) (.ref b)) Q E s)
    (h2 : ∀ {s : Shared} {l b : Addr} {xs ys : Array Value} {Q E : Value → Shared → Prop}, s.heap.IsList l xs → s.heap.IsList b ys → (xs.size != ys.size) = true → Q (.bool (f false)) s → wpAny (model X.prog X.w) X.A (compareOp op (.ref l) (.ref b)) Q E s) : OpR X (compareOp op) (rTwoS f X.K) := by
  intro pins s σ H x y v u Q I rx ry h
  obtain ⟨a, b, ws, vs, rfl, rfl, ha, hb, q⟩ := h
  cases rx; cases ry
  obtain ⟨xs, r1, ⟨o1, n1, o1h, o1c, _, o1d⟩, _⟩ := I.list ha
  obtain ⟨ys, r2, ⟨o2, n2, o2h, o2c, _, o2d⟩, _⟩ := I.list hb
  have l1 : s.heap.IsList a xs.toArray := ⟨o1, o1h, o1c, n1, o1d⟩
  have l2 : s.heap.IsList b ys.toArray := ⟨o2, o2h, o2c, n2, o2d⟩
  have e1 : ws.length = xs.length := by have := r1.length; rwa [List.length_map] at this
  have e2 : vs.length = ys.length := by have := r2.length; rwa [List.length_map] at this
  by_cases e : xs.length = ys.length
  · refine h1 (e := fun j => ws.getD j Str.empty == vs.getD j Str.empty) l1 l2 (by simpa using e) (fun j j1 j2 => ?_) ?_
    · have k1 : xs[j]? = some (xs.toArray[j]) := by simp at j1; simp [j1]
      have k2 : ys[j]? = some (ys.toArray[j]) := by simp at j2; simp [j2]
      obtain ⟨t, g1⟩ := strs_at r1 k1
      obtain ⟨t', g2⟩ := strs_at r2 k2
      rw [g1, g2]
      exact SeqAt.EqAt.str_str _ _ _ _
    · refine ⟨.bl _, H, I, rfl, ?_⟩
      rw [List.size_toArray, ← e1, all_getD ws vs (by omega)]
      exact q
  · refine h2 l1 l2 (by simpa using e) ⟨.bl _, H, I, rfl, ?_⟩
    have : ws ≠ vs := by rintro rfl; omega
    rw [decide_eq_false this] at q
    exact q
theorem op_eqS (hu : X.A.units < cLine) : OpR X (compareOp .Eq) (rTwoS (fun b => b) X.K) :=
  twoS (fun l1 l2 e he q => SeqAt.RcAt.lists l1 l2 e hu he X.prog X.w _ _ q) fun l1 l2 e q => SeqAt.RcAt.lists_lengths l1 l2 e hu X.prog X.w _ _ q
theorem op_neS (hu : X.A.units < cLine) : OpR X (compareOp .NotEq) (rTwoS (fun b => !b) X.K) :=
  twoS (fun l1 l2 e he q => SeqAt.RcNeAt.lists l1 l2 e hu he X.prog X.w _ _ q) fun l1 l2 e q => SeqAt.RcNeAt.lists_lengths l1 l2 e hu X.prog X.w _ _ q
end
/-- a piece of a list of texts -/
theorem cut_take {α : Type} (f : α → V) (ws : List α) (j : Nat) : cutV (ws.map f) none (some (j : Int)) = (ws.take j).map f := by
  unfold cutV
  rw [HT.sIx_none, HT.sIx_nat, List.drop_zero, Nat.sub_zero, List.length_map, List.map_take]
  by_cases h : j ≤ ws.length
  · rw [Nat.min_eq_left h]
  · rw [Nat.min_eq_right (by omega), List.take_of_length_le (by rw [List.length_map]; omega), List.take_of_length_le (by rw [List.length_map]; omega)]
theorem cut_drop {α : Type} (f : α → V) (ws : List α) (j : Nat) : cutV (ws.map f) (some (j : Int)) none = (ws.drop j).map f := by
  unfold cutV
  rw [HT.sIx_none, HT.sIx_nat, List.length_map, List.map_drop]
  by_cases h : j ≤ ws.length
  · rw [Nat.min_eq_left h, List.take_of_length_le (by rw [List.length_drop, List.length_map]; omega)]
  · rw [Nat.min_eq_right (by omega), List.drop_of_length_le (by rw [List.length_map]; omega), List.drop_of_length_le (by rw [List.length_map]; omega)]
    simp
theorem eqV_strs (x y : Str) : eqV (.str x) (.str y) = (x == y) := rfl
end Tw
end
section
/-! text W1 -/
set_option maxHeartbeats 4000000
namespace Tw
open PySem PySem.Spec PyProof.Rows L2
theorem iteFb {c : Bool} {A B : Prop} (e : c = false) (h : B) : if c = true then A else B := by rw [e]; exact iteF h
theorem iteTb {c : Bool} {A B : Prop} (e : c = true) (h : A) : if c = true then A else B := by rw [e]; exact iteT h
theorem ite_b {c : Bool} {p : Prop} {A B : Prop} (d : c = true ↔ p) (h1 : p → A) (h2 : ¬ p → B) : if c = true then A else B := by
  cases c with
  | true => exact iteT (h1 (d.mp rfl))
  | false => exact iteF (h2 fun q => by have := d.mpr q; cases this)
theorem index_at {ws p z : List Str} {x : Str} (e : ws = p ++ x :: z) (hx : x ∉ p) : (ws.map V.str)[p.length]? = some (.str x) ∧ ∀ (m : Nat) (y : V), m < p.length → (ws.map V.str)[m]? = some y → eqV y (.str x) = false := by
  subst e
  constructor
  · exact at_map (by simp)
  · intro m y hm hy
    obtain ⟨v, hv, rfl⟩ := map_at hy
    rw [List.getElem?_append_left hm] at hv
    rw [eqV_strs]
    have : v ∈ p := List.mem_of_getElem? hv
    exact beq_eq_false_iff_ne.mpr fun q => hx (q ▸ this)
section
variable {P : Program} {w : World} {K : PySem.W.Frag} {mg : Str → Option Value} {base : Heap}
/-- a def from one speech to a new one, all else as it was -/
def spL (C : List Str → Prop) (g : List Str → List Str) : Sp := fun vs H Q _ => ∃ (a : Addr) (ws : List Str), vs = [.ref a] ∧ LS H a ws ∧ C ws ∧ ∀ H' p, Same H H' → H p = none → LS H' p (g ws) → Q (.ref p) H'
/-- a speech of at most a thousand words -/
abbrev C1 : List Str → Prop := fun ws => ws.length ≤ 1000
theorem ok_by_first (T : TX K mg) : Cal P w K mg base 1 "by_first" ["speech"] (spL C1 firsts) := by
  refine mk_cal (y := "by_first") (st := s_by_first) T 6 6 rfl rfl sc_by_first (fun _ _ _ _ _ _ us hl => match us, hl with | [_], _ => rfl) (fun vs H Q E h => ?_) (fun cdv A outer s H vs Q E hr h => ?_)
  · obtain ⟨a, ws, rfl, _⟩ := h; rfl
  obtain ⟨a, ws, rfl, hL, hn, k⟩ := h
  refine ⟨_, pss_cons (ps_set (i := 1) sc_by_first.nd rfl (.inl rfl) (pe_lst pa_nil))
    (pss_cons (ps_for PassesOwn.never rfl (pi_list (pv 0)) (pg_name (i := 2) sc_by_first.nd rfl (.inl rfl))
      (pss_one (ps_if (pt_cmpR op_notIn_seq (pv 2) (pv 1) (by rfl)) (pss_one (ps_expr (pe_bm PySem.F.plainAttrs_list PySem.F.slot_list_append PySem.F.type_list_append mt_append (pv 1) (pa_cons (pv 2) pa_nil)))) pss_nil)))
    (pss_one (ps_ret (pv 1)))), ?_⟩
  refine ⟨by decide, fun f nf => ?_⟩
  refine ⟨_, rfl, a, rfl, ⟨_, SqL.of ((same_new nf) _ _ hL)⟩, for_list (K := K) (a := a) (xs := ws.map V.str) (fun i σ H2 => ∃ v, σ = [some (.ref a), some (.ref f), v] ∧ Same H H2 ∧ LS H2 f (firsts (ws.take i)))
    ⟨none, rfl, same_new nf, upd_same⟩ (fun i σ H2 _ ⟨_, _, s2, _⟩ => SqL.of (s2 _ _ hL)) ?_ ?_⟩
  · rintro i y σ H2 hi ⟨v, rfl, s2, hf⟩
    obtain ⟨x, hx, rfl⟩ := map_at hi
    have e1 := take_succ hx
    refine ⟨_, rfl, _, rfl, f, _, rfl, .inl (SqL.of hf), rfl, flat_strs _, _, rfl, ?_⟩
    rw [inV_str]
    by_cases hm : x ∈ firsts (ws.take i)
    · rw [decide_eq_true hm]
      refine iteF ⟨_, rfl, s2, ?_⟩
      rw [e1, firsts_snoc, if_pos hm]; exact hf
    · rw [decide_eq_false hm]
      refine iteT ?_
      have hl : (firsts (ws.take i)).length ≤ 1000 := Nat.le_trans (firsts_len _) (by rw [List.length_take]; unfold C1 at hn; omega)
      refine ⟨_, rfl, .inl ⟨rfl, _, SqL.of hf⟩, _, rfl, f, _, _, rfl, rfl, hf, small_line' (by rw [List.length_map]; omega), _, rfl, s2.put nf, ?_⟩
      show upd _ _ _ _ = _
      rw [upd_same, e1, firsts_snoc, if_neg hm, List.map_append]
      rfl
  · rintro σ H2 ⟨v, rfl, s2, hf⟩
    rw [List.length_map, List.take_length] at hf
    exact ⟨_, rfl, k H2 f s2 nf hf⟩
theorem ok_turned (T : TX K mg) : Cal P w K mg base 1 "turned" ["speech"] (spL (fun _ => True) List.reverse) := by
  refine mk_cal (y := "turned") (st := s_turned) T 7 7 rfl rfl sc_turned (fun _ _ _ _ _ _ us hl => match us, hl with | [_], _ => rfl) (fun vs H Q E h => ?_) (fun cdv A outer s H vs Q E hr h => ?_)
  · obtain ⟨a, ws, rfl, _⟩ := h; rfl
  obtain ⟨a, ws, rfl, hL, _, k⟩ := h
  refine ⟨_, pss_one (ps_ret (pe_revL (pv 0))), ?_⟩
  refine ⟨_, rfl, a, _, rfl, SqL.of hL, fun p np => k _ p (same_new np) np ?_⟩
  show upd _ _ _ _ = _
  rw [upd_same, List.map_reverse]
/-- a half: a list's address and a word, in a new tuple -/
def spFh : Sp := fun vs H Q _ => ∃ (a : Addr) (ws p : List Str) (x : Str), vs = [.ref a] ∧ LS H a ws ∧ C1 ws ∧ fh ws = some (p, x) ∧ ∀ H' t q, Same H H' → H t = none → H q = none → H' t = some (.tup [.ref q, .str x]) → LS H' q p → Q (.ref t) H'
theorem ok_first_half (T : TX K mg) : Cal P w K mg base 2 "first_half" ["speech"] spFh := by
  have G := ok_by_first (P := P) (w := w) (base := base) T
  refine mk_cal (y := "first_half") (st := s_first_half) T 9 9 rfl rfl sc_first_half (fun _ _ _ _ _ _ us hl => match us, hl with | [_], _ => rfl) (fun vs H Q E h => ?_) (fun cdv A outer s H vs Q E hr h => ?_)
  · obtain ⟨a, ws, p, x, rfl, _⟩ := h; rfl
  obtain ⟨a, ws, p, x, rfl, hL, hn, hf, k⟩ := h
  refine ⟨_, pss_cons (ps_if (pt_cmpR (op_eqS hr.units0) (pv 0) (pe_lst pa_nil) (nomark _)) pss_never pss_nil)
    (pss_cons (ps_set (i := 1) sc_first_half.nd rfl (.inl rfl) (pe_ix ix_list (pc G hr (pa_cons (pv 0) pa_nil)) (pe_un un_neg pe_int) (fun _ _ => rfl)))
    (pss_one (ps_ret (pe_tup (pa_cons (pe_slice sl_list (pv 0) po_none (po_some (pe_bm PySem.F.plainAttrs_list PySem.F.slot_list_index PySem.F.type_list_index mt_index (pv 0) (pa_cons (pv 1) pa_nil)))) (pa_cons (pv 1) pa_nil)))))), ?_⟩
  refine ⟨_, rfl, by decide, fun e ne => ⟨a, e, ws, [], rfl, rfl, SqL.of (same_new ne _ _ hL), SqL.of upd_same, _, rfl, iteFb (decide_eq_false (halves_ne hf)) ?_⟩⟩
  have sA : Same H (upd H e (.lst [])) := same_new ne
  refine ⟨_, rfl, a, ws, rfl, sA _ _ hL, hn, fun H1 f s1 n1 hF => ?_⟩
  have e1 : (firsts ws).map V.str = (firsts p).map V.str ++ [V.str x] := by rw [firsts_fh hf, List.map_append]; rfl
  refine ⟨1, rfl, f, _, -1, _, rfl, rfl, SqL.of hF, by rw [e1]; exact atI_last _ _, ?_⟩
  obtain ⟨z, ez, hx, _⟩ := fh_shape hf
  obtain ⟨i1, i2⟩ := index_at ez hx
  have sB : Same H H1 := sA.trans s1
  refine ⟨_, rfl, _, rfl, .inl ⟨rfl, _, SqL.of (sB _ _ hL)⟩, _, rfl, a, _, .str x, p.length, .str x, rfl, rfl, SqL.of (sB _ _ hL), rfl, flat_strs _, i1, by rw [eqV_strs]; exact beq_self_eq_true _, i2, _, rfl, a, _, rfl, SqL.of (sB _ _ hL), fun q nq => ?_⟩
  refine ⟨_, rfl, by show 2 ≤ sizeLine; decide, fun t nt => ?_⟩
  have hq : H q = none := sB.free nq
  have hne : t ≠ q := fun e => by subst e; rw [upd_same] at nt; cases nt
  have ht : H t = none := by rw [upd_ne hne] at nt; exact sB.free nt
  refine k _ t q ((sB.put hq).put ht) ht hq upd_same ?_
  show upd _ _ _ _ = _
  rw [upd_ne hne.symm, upd_same, cut_take, ez]
  simp
/-- the last half: the word, then the list -/
def spLh : Sp := fun vs H Q _ => ∃ (a : Addr) (ws p : List Str) (x : Str), vs = [.ref a] ∧ LS H a ws ∧ C1 ws ∧ lh ws = some (x, p) ∧ ∀ H' t q, Same H H' → H t = none → H q = none → H' t = some (.tup [.str x, .ref q]) → LS H' q p → Q (.ref t) H'
theorem ok_last_half (T : TX K mg) : Cal P w K mg base 3 "last_half" ["speech"] spLh := by
  have G := ok_first_half (P := P) (w := w) (base := base) T
  have Gt := ok_turned (P := P) (w := w) (base := base) T
  refine mk_cal (y := "last_half") (st := s_last_half) T 10 10 rfl rfl sc_last_half (fun _ _ _ _ _ _ us hl => match us, hl with | [_], _ => rfl) (fun vs H Q E h => ?_) (fun cdv A outer s H vs Q E hr h => ?_)
  · obtain ⟨a, ws, p, x, rfl, _⟩ := h; rfl
  obtain ⟨a, ws, p, x, rfl, hL, hn, hf, k⟩ := h
  refine ⟨_, pss_cons (ps_asg (pc G hr (pa_cons (pc Gt (hr.mono (by decide)) (pa_cons (pv 0) pa_nil)) pa_nil)) (pg_tup rfl (pgs_cons (pg_name (i := 1) sc_last_half.nd rfl (.inl rfl)) (pgs_cons (pg_name (i := 2) sc_last_half.nd rfl (.inl rfl)) pgs_nil))))
    (pss_one (ps_ret (pe_tup (pa_cons (pv 2) (pa_cons (pc Gt (hr.mono (by decide)) (pa_cons (pv 1) pa_nil)) pa_nil))))), ?_⟩
  refine ⟨_, rfl, a, ws, rfl, hL, trivial, fun H1 b s1 n1 hb => ?_⟩
  refine ⟨b, _, p.reverse, x, rfl, hb, by unfold C1 at *; rw [List.length_reverse]; exact hn, by rw [fh_lh, List.reverse_reverse, List.reverse_reverse]; exact hf, fun H2 t q s2 nt nq ht hq => ?_⟩
  refine ⟨t, _, rfl, SqT.of ht, rfl, _, _, rfl, _, _, rfl, rfl, ?_⟩
  refine ⟨_, rfl, _, rfl, q, _, rfl, hq, trivial, fun H3 r s3 nr hr' => ?_⟩
  refine ⟨by show 2 ≤ sizeLine; decide, fun t2 nt2 => ?_⟩
  have sB : Same H H3 := (s1.trans s2).trans s3
  refine k _ t2 r (Same.new sB nt2) (sB.free nt2) ((s1.trans s2).free nr) upd_same ?_
  show upd _ _ _ _ = _
  rw [upd_ne (ne_of_none hr' nt2)]
  rw [List.reverse_reverse] at hr'
  exact hr'
end
end Tw
end
section
/-! text W2 -/
set_option maxHeartbeats 4000000
namespace Tw
open PySem PySem.Spec PyProof.Rows L2
section
variable {X : Cx} {e e2 : Expr} {ta tb : TE} {p pos : Pos}
/-- len(e) -/
theorem plen (T : TX X.K X.mg) (ha : PE X e ta) (hg : Gl X "len" := by rfl) (hs : starEach [e] X.env = (false, eval e X.env) :: starEach [] X.env := by rfl) : PE X (.Call (.Name "len" p) [e] [] pos) (tCB (fun xs H Q => ∃ p ys, xs = [.ref p] ∧ (SqL X.K H p ys ∨ SqT X.K H p ys) ∧ Q (.int ys.length) H) (tCons ta tNil)) :=
  pe_callB call_len_seq hg (T.free 48 rfl) PySem.boot_len (pa_cons ha pa_nil hs) (he := hs)
/-- min(a, b) -/
theorem pmin (T : TX X.K X.mg) (ha : PE X e ta) (hb : PE X e2 tb) (hc : X.calm = true := by rfl) (hg : Gl X "min" := by rfl) (hs : starEach [e, e2] X.env = (false, eval e X.env) :: starEach [e2] X.env := by rfl) (hs2 : starEach [e2] X.env = (false, eval e2 X.env) :: starEach [] X.env := by rfl) (hpl : (backTo pos (starEach [e2] X.env)).any (·.1) = false := by rfl) :
    PE X (.Call (.Name "min" p) [e, e2] [] pos) (tCB (fun xs H Q => ∃ i j, xs = [.int i, .int j] ∧ Q (.int (if j < i then j else i)) H) (tCons ta (tCons tb tNil))) :=
  pe_callB (call_min2 hc) hg (T.free 57 rfl) boot_min (pa_cons ha (pa_cons hb pa_nil hs2) hs) (he := hs) (hpl := hpl)
end
theorem min_nat (a b : Nat) : (if (b : Int) < (a : Int) then (b : Int) else (a : Int)) = ((min a b : Nat) : Int) := by
  split <;> omega
theorem sub_nat {a k : Nat} (h : k ≤ a) : (a : Int) - (k : Int) = ((a - k : Nat) : Int) := by omega
section
variable {P : Program} {w : World} {K : PySem.W.Frag} {mg : Str → Option Value} {base : Heap}
/-- a def from two speeches to a new one, all else as it was -/
def spL2 (C : List Str → List Str → Prop) (g : List Str → List Str → List Str) : Sp := fun vs H Q _ => ∃ (a b : Addr) (ws us : List Str), vs = [.ref a, .ref b] ∧ LS H a ws ∧ LS H b us ∧ C ws us ∧ ∀ H' p, Same H H' → H p = none → LS H' p (g ws us) → Q (.ref p) H'
abbrev C2 : List Str → List Str → Prop := fun ws us => ws.length ≤ 1000 ∧ us.length ≤ 1000
theorem ok_laid (T : TX K mg) : Cal P w K mg base 1 "laid" ["one", "other"] (spL2 C2 laid) := by
  refine mk_cal (y := "laid") (st := s_laid) T 13 13 rfl rfl sc_laid (fun _ _ _ _ _ _ us hl => match us, hl with | [_, _], _ => rfl) (fun vs H Q E h => ?_) (fun cdv A outer s H vs Q E hr h => ?_)
  · obtain ⟨a, b, ws, us, rfl, _⟩ := h; rfl
  obtain ⟨a, b, ws, us, rfl, hA, hB, ⟨hn1, hn2⟩, k⟩ := h
  refine ⟨_, pss_cons (ps_for PassesOwn.never rfl (pi_range3 rfl (T.free 59 rfl) (pa_cons (pmin T (plen T (pv 0)) (plen T (pv 1))) (pa_cons pe_int (pa_cons (pe_un un_neg pe_int) pa_nil)))) (pg_name (i := 2) sc_laid.nd rfl (.inl rfl))
      (pss_one (ps_if (pt_cmpR (op_eqS hr.units0) (pe_slice sl_list (pv 0) (po_some (pe_op op_sub (plen T (pv 0)) (pv 2))) po_none) (pe_slice sl_list (pv 1) po_none (po_some (pv 2))) (nomark _))
        (pss_one (ps_ret (pe_op op_cat (pv 0) (pe_slice sl_list (pv 1) (po_some (pv 2)) po_none)))) pss_nil)))
    (pss_one (ps_ret (pe_op op_cat (pv 0) (pv 1)))), ?_⟩
  refine ⟨_, rfl, a, _, rfl, .inl (SqL.of hA), _, rfl, b, _, rfl, .inl (SqL.of hB), _, _, rfl, 1, rfl, ?_⟩
  rw [min_nat, List.length_map, List.length_map]
  have hR : RgC ((min ws.length us.length : Nat) : Int) 0 (-1) (min ws.length us.length) := by
    have := RgC.neg (i := ((min ws.length us.length : Nat) : Int)) (j := 0) (by omega) (by omega) (by omega) (by omega)
    rwa [Int.sub_zero, Int.toNat_natCast] at this
  refine ⟨_, _, _, _, rfl, hR, for_rangeC (lo := ((min ws.length us.length : Nat) : Int)) (c := -1) (n := min ws.length us.length) (fun i σ H2 => ∃ v, σ = [some (.ref a), some (.ref b), v] ∧ Same H H2 ∧ laid ws us = laidN ws us (min ws.length us.length - i)) ⟨none, rfl, .refl _, rfl⟩ ?_ ?_⟩
  · rintro i σ H2 hi ⟨v, rfl, s2, hl⟩
    obtain ⟨m, hm⟩ : ∃ m, min ws.length us.length - i = m + 1 := ⟨min ws.length us.length - i - 1, by omega⟩
    have hm2 : ((min ws.length us.length : Nat) : Int) + (i : Nat) * (-1) = ((m + 1 : Nat) : Int) := by omega
    have hmle : m + 1 ≤ ws.length := by omega
    rw [hm2]
    have hA2 := s2 _ _ hA
    have hB2 := s2 _ _ hB
    refine ⟨_, rfl, _, rfl, a, _, rfl, .inl (SqL.of hA2), _, rfl, _, _, rfl, rfl, _, rfl, a, _, rfl, SqL.of hA2, fun p np => ?_⟩
    rw [List.length_map, sub_nat hmle, cut_drop]
    refine ⟨_, rfl, _, rfl, _, rfl, b, _, rfl, SqL.of (same_new np _ _ hB2), fun q nq => ?_⟩
    rw [cut_take]
    have s3 : Same H (upd H2 p (.lst ((ws.drop (ws.length - (m + 1))).map V.str))) := s2.new np
    have s4 := s3.new (o := .lst ((us.take (m + 1)).map V.str)) nq
    refine ⟨p, q, _, _, rfl, rfl, SqL.of (same_new nq _ _ upd_same), SqL.of upd_same, _, rfl, ?_⟩
    refine ite_b (p := ws.drop (ws.length - (m + 1)) = us.take (m + 1)) decide_eq_true_iff (fun e => ?_) (fun e => ?_)
    · refine ⟨_, rfl, _, rfl, _, rfl, _, rfl, b, _, rfl, SqL.of (s4 _ _ hB), fun r nr => ?_⟩
      rw [cut_drop]
      have s5 := s4.new (o := .lst ((us.drop (m + 1)).map V.str)) nr
      refine ⟨a, r, _, _, rfl, rfl, s5 _ _ hA, upd_same, small_line (by rw [List.length_map, List.length_map, List.length_drop]; omega), fun t nt => k _ t (s5.new nt) (s5.free nt) ?_⟩
      show upd _ _ _ _ = _
      rw [upd_same, hl, hm]
      show _ = some (HO.lst ((laidN ws us (m + 1)).map V.str))
      unfold laidN
      rw [if_pos e, List.map_append]
    · refine ⟨_, rfl, s4, ?_⟩
      rw [hl, hm]
      unfold laidN
      rw [if_neg e]
      have : min ws.length us.length - (i + 1) = m := by omega
      rw [this]
      cases m <;> rfl
  · rintro σ H2 ⟨v, rfl, s2, hl⟩
    refine ⟨_, rfl, _, rfl, a, b, _, _, rfl, rfl, s2 _ _ hA, s2 _ _ hB, small_line (by rw [List.length_map, List.length_map]; omega), fun t nt => k _ t (s2.new nt) (s2.free nt) ?_⟩
    show upd _ _ _ _ = _
    rw [upd_same, hl, Nat.sub_self]
    unfold laidN
    rw [List.map_append]
/-- a speech of n words at most, of at most a thousand in all -/
abbrev CF (n : Nat) : List Str → Prop := fun ws => ws.length ≤ 1000 ∧ Few n ws
theorem ok_shortest (T : TX K mg) : ∀ n, n ≤ 6 → Cal P w K mg base (n + 4) "shortest" ["speech"] (spL (CF n) short)
  | 0, _ => by
    refine mk_cal (y := "shortest") (st := s_shortest) T 14 14 rfl rfl sc_shortest (fun _ _ _ _ _ _ us hl => match us, hl with | [_], _ => rfl) (fun vs H Q E h => ?_) (fun cdv A outer s H vs Q E hr h => ?_)
    · obtain ⟨a, ws, rfl, _⟩ := h; rfl
    obtain ⟨a, ws, rfl, hL, ⟨hn, hf⟩, k⟩ := h
    refine ⟨_, pss_cons (ps_if (pt_cmpR (op_eqS hr.units0) (pv 0) (pe_lst pa_nil) (nomark _)) (pss_one (ps_ret (pe_lst pa_nil))) pss_nil) pss_never, ?_⟩
    have e := hf.zero
    subst e
    refine ⟨_, rfl, by decide, fun e ne => ⟨a, e, [], [], rfl, rfl, SqL.of (same_new ne _ _ hL), SqL.of upd_same, _, rfl, iteTb (decide_eq_true rfl) ?_⟩⟩
    exact ⟨by decide, fun p np => k _ p ((same_new ne).new np) ((same_new ne).free np) (by rw [short_nil]; exact upd_same)⟩
  | n + 1, hn6 => by
    have IH := ok_shortest T n (by omega)
    have Gf := ok_first_half (P := P) (w := w) (base := base) T
    have Gb := ok_last_half (P := P) (w := w) (base := base) T
    have Gl := ok_laid (P := P) (w := w) (base := base) T
    refine mk_cal (y := "shortest") (st := s_shortest) T 14 14 rfl rfl sc_shortest (fun _ _ _ _ _ _ us hl => match us, hl with | [_], _ => rfl) (fun vs H Q E h => ?_) (fun cdv A outer s H vs Q E hr h => ?_)
    · obtain ⟨a, ws, rfl, _⟩ := h; rfl
    obtain ⟨a, ws, rfl, hL, ⟨hn, hf⟩, k⟩ := h
    refine ⟨_, pss_cons (ps_if (pt_cmpR (op_eqS hr.units0) (pv 0) (pe_lst pa_nil) (nomark _)) (pss_one (ps_ret (pe_lst pa_nil))) pss_nil)
      (pss_cons (ps_asg (pc Gf (hr.mono (by omega)) (pa_cons (pv 0) pa_nil)) (pg_tup rfl (pgs_cons (pg_name (i := 1) sc_shortest.nd rfl (.inl rfl)) (pgs_cons (pg_name (i := 2) sc_shortest.nd rfl (.inl rfl)) pgs_nil))))
      (pss_cons (ps_asg (pc Gb (hr.mono (by omega)) (pa_cons (pv 0) pa_nil)) (pg_tup rfl (pgs_cons (pg_name (i := 3) sc_shortest.nd rfl (.inl rfl)) (pgs_cons (pg_name (i := 4) sc_shortest.nd rfl (.inl rfl)) pgs_nil))))
      (pss_one (ps_ret (pc Gl (hr.mono (by omega)) (pa_cons (pe_op op_cat (pc IH hr (pa_cons (pv 1) pa_nil)) (pe_lst (pa_cons (pv 2) pa_nil))) (pa_cons (pe_op op_cat (pe_lst (pa_cons (pv 3) pa_nil)) (pc IH hr (pa_cons (pv 4) pa_nil))) pa_nil))))))), ?_⟩
    refine ⟨_, rfl, by decide, fun e ne => ⟨a, e, ws, [], rfl, rfl, SqL.of (same_new ne _ _ hL), SqL.of upd_same, _, rfl, ?_⟩⟩
    have sA : Same H (upd H e (.lst [])) := same_new ne
    refine ite_b (p := ws = []) decide_eq_true_iff (fun ew => ?_) (fun ew => ?_)
    · subst ew
      exact ⟨by decide, fun p np => k _ p (sA.new np) (sA.free np) (by rw [short_nil]; exact upd_same)⟩
    · obtain ⟨pp, x, b, tt, e1, e2⟩ := halves ew
      refine ⟨_, rfl, a, ws, pp, x, rfl, sA _ _ hL, hn, e1, fun H1 t q s1 nt nq ht hq => ?_⟩
      refine ⟨t, _, rfl, SqT.of ht, rfl, _, _, rfl, _, _, rfl, rfl, ?_⟩
      have sB := sA.trans s1
      refine ⟨_, rfl, a, ws, tt, b, rfl, sB _ _ hL, hn, e2, fun H2 t2 q2 s2 nt2 nq2 ht2 hq2 => ?_⟩
      refine ⟨t2, _, rfl, SqT.of ht2, rfl, _, _, rfl, _, _, rfl, rfl, ?_⟩
      have sC := sB.trans s2
      have lp : pp.length ≤ 1000 := by have := fh_len e1; omega
      have lt : tt.length ≤ 1000 := by have := lh_len e2; omega
      refine ⟨_, rfl, q, pp, rfl, s2 _ _ hq, ⟨lp, hf.fh e1⟩, fun H3 r s3 nr hr3 => ?_⟩
      have sD := sC.trans s3
      have bp := short_le (hf.fh e1) (by omega)
      have bt := short_le (hf.lh e2) (by omega)
      refine ⟨_, rfl, by show 1 ≤ sizeLine; decide, fun u nu => ?_⟩
      refine ⟨r, u, _, _, rfl, rfl, same_new nu _ _ hr3, upd_same, small_line (by rw [List.length_map]; show _ + 1 ≤ _; omega), fun y ny => ?_⟩
      have sE := (sD.new (o := .lst [V.str x]) nu)
      have sF := sE.new (o := .lst ((short pp).map V.str ++ [V.str x])) ny
      refine ⟨_, rfl, by show 1 ≤ sizeLine; decide, fun u2 nu2 => ?_⟩
      have sG := sF.new (o := .lst [V.str b]) nu2
      have hq2' : LS (upd (upd (upd H3 u (.lst [V.str x])) y (.lst ((short pp).map V.str ++ [V.str x]))) u2 (.lst [V.str b])) q2 tt := by
        have h3 : LS H3 q2 tt := s3 _ _ hq2
        exact ((((Same.refl H3).new nu).new ny).new nu2) _ _ h3
      refine ⟨_, rfl, q2, tt, rfl, hq2', ⟨lt, hf.lh e2⟩, fun H4 z s4 nz hz => ?_⟩
      refine ⟨u2, z, _, _, rfl, rfl, s4 _ _ upd_same, hz, small_line (by rw [List.length_map]; show 1 + _ ≤ _; omega), fun v nv => ?_⟩
      have sH := sG.trans s4
      have hy : LS (upd H4 v (.lst ([V.str b] ++ (short tt).map V.str))) y (short pp ++ [x]) := by
        have h1 : H4 y = some (.lst ((short pp).map V.str ++ [V.str x])) := s4 _ _ (same_new nu2 _ _ upd_same)
        show upd _ _ _ _ = _
        rw [upd_ne (ne_of_none h1 nv), h1, List.map_append]
        rfl
      have hv : LS (upd H4 v (.lst ([V.str b] ++ (short tt).map V.str))) v (b :: short tt) := upd_same
      refine ⟨y, v, _, _, rfl, hy, hv, ⟨by rw [List.length_append]; show _ + 1 ≤ _; omega, by rw [List.length_cons]; omega⟩, fun H5 o s5 no ho => ?_⟩
      refine k _ o ((sH.new nv).trans s5) ((sH.new nv).free no) ?_
      rw [short_eq e1 e2]
      exact ho
end
end Tw
end
section
/-! text W3 -/
set_option maxHeartbeats 4000000
namespace Tw
open PySem PySem.Spec PyProof.Rows L2
instance {α : Type} [DecidableEq α] (u v : List α) : Decidable (Shut u v) := inferInstanceAs (Decidable (_ ∧ _))
section
variable {P : Program} {w : World} {K : PySem.W.Frag} {mg : Str → Option Value} {base : Heap}
/-- a def from two speeches to a truth value -/
def spB2 (C : List Str → List Str → Prop) (g : List Str → List Str → Bool) : Sp := fun vs H Q _ => ∃ (a b : Addr) (ws us : List Str), vs = [.ref a, .ref b] ∧ LS H a ws ∧ LS H b us ∧ C ws us ∧ ∀ H', Same H H' → Q (.bl (g ws us)) H'
abbrev CF2 : List Str → List Str → Prop := fun ws us => CF 4 ws ∧ CF 4 us
/-- two speeches of four words together -/
abbrev CJ : List Str → List Str → Prop := fun ws us => ws.length ≤ 400 ∧ us.length ≤ 400 ∧ Few 4 (ws ++ us)
theorem CJ.l {ws us : List Str} (c : CJ ws us) : CF2 ws us := ⟨⟨Nat.le_trans c.1 (by decide), c.2.2.sub fun x hx => List.mem_append_left _ hx⟩, ⟨Nat.le_trans c.2.1 (by decide), c.2.2.sub fun x hx => List.mem_append_right _ hx⟩⟩
theorem CJ.j {ws us : List Str} (c : CJ ws us) : CF2 (ws ++ us) us := ⟨⟨by rw [List.length_append]; have := c.1; have := c.2.1; omega, c.2.2⟩, c.l.2⟩
theorem CJ.swap {ws us : List Str} (c : CJ ws us) : CJ us ws := ⟨c.2.1, c.1, c.2.2.sub fun x hx => by
  rcases List.mem_append.mp hx with h | h
  · exact List.mem_append_right _ h
  · exact List.mem_append_left _ h⟩
theorem ok_alike (T : TX K mg) : Cal P w K mg base 9 "alike" ["one", "other"] (spB2 CF2 fun ws us => decide (Sim ws us)) := by
  have G := ok_shortest (P := P) (w := w) (base := base) T 4 (by decide)
  refine mk_cal (y := "alike") (st := s_alike) T 15 15 rfl rfl sc_alike (fun _ _ _ _ _ _ us hl => match us, hl with | [_, _], _ => rfl) (fun vs H Q E h => ?_) (fun cdv A outer s H vs Q E hr h => ?_)
  · obtain ⟨a, b, ws, us, rfl, _⟩ := h; rfl
  obtain ⟨a, b, ws, us, rfl, hA, hB, ⟨c1, c2⟩, k⟩ := h
  refine ⟨_, pss_one (ps_ret (pe_cmpR (op_eqS hr.units0) (pc G hr (pa_cons (pv 0) pa_nil)) (pc G hr (pa_cons (pv 1) pa_nil)) (nomark _))), ?_⟩
  refine ⟨_, rfl, a, ws, rfl, hA, c1, fun H1 p s1 n1 hp => ?_⟩
  refine ⟨_, rfl, b, us, rfl, s1 _ _ hB, c2, fun H2 q s2 n2 hq => ?_⟩
  exact ⟨p, q, _, _, rfl, rfl, SqL.of (s2 _ _ hp), SqL.of hq, k _ (s1.trans s2)⟩
theorem ok_comes_on (T : TX K mg) : Cal P w K mg base 10 "comes_on" ["u", "v"] (spB2 CJ fun ws us => decide (On ws us)) := by
  have G := ok_alike (P := P) (w := w) (base := base) T
  refine mk_cal (y := "comes_on") (st := s_comes_on) T 22 22 rfl rfl sc_comes_on (fun _ _ _ _ _ _ us hl => match us, hl with | [_, _], _ => rfl) (fun vs H Q E h => ?_) (fun cdv A outer s H vs Q E hr h => ?_)
  · obtain ⟨a, b, ws, us, rfl, _⟩ := h; rfl
  obtain ⟨a, b, ws, us, rfl, hA, hB, c, k⟩ := h
  refine ⟨_, pss_one (ps_ret (pc G hr (pa_cons (pe_op op_cat (pv 0) (pv 1)) (pa_cons (pv 1) pa_nil)))), ?_⟩
  have cj := c.j
  refine ⟨_, rfl, _, rfl, a, b, _, _, rfl, rfl, hA, hB, small_line (by rw [List.length_map, List.length_map]; have := c.1; have := c.2.1; omega), fun p np => ?_⟩
  refine ⟨_, rfl, p, b, ws ++ us, us, rfl, ?_, same_new np _ _ hB, cj, fun H' s' => k _ ((same_new np).trans s')⟩
  show upd _ _ _ _ = _
  rw [upd_same, List.map_append]
theorem ok_is_shut (T : TX K mg) : Cal P w K mg base 11 "is_shut" ["one", "other"] (spB2 CJ fun ws us => decide (Shut ws us)) := by
  have G := ok_comes_on (P := P) (w := w) (base := base) T
  refine mk_cal (y := "is_shut") (st := s_is_shut) T 26 26 rfl rfl sc_is_shut (fun _ _ _ _ _ _ us hl => match us, hl with | [_, _], _ => rfl) (fun vs H Q E h => ?_) (fun cdv A outer s H vs Q E hr h => ?_)
  · obtain ⟨a, b, ws, us, rfl, _⟩ := h; rfl
  obtain ⟨a, b, ws, us, rfl, hA, hB, c, k⟩ := h
  refine ⟨_, pss_one (ps_ret (pe_and (pe_not (pc G hr (pa_cons (pv 0) (pa_cons (pv 1) pa_nil)))) (pe_one (pe_not (pc G hr (pa_cons (pv 1) (pa_cons (pv 0) pa_nil))))))), ?_⟩
  refine ⟨_, rfl, _, rfl, a, b, ws, us, rfl, hA, hB, c, fun H1 s1 => ⟨_, rfl, _, rfl, ?_⟩⟩
  have k : ∀ H', Same H H' → Q (.bl (decide (Shut ws us))) H' := k
  by_cases h1 : On ws us
  · have e : decide (Shut ws us) = false := decide_eq_false fun q => q.1 h1
    rw [e] at k
    exact iteFb (by show (!decide (On ws us)) = false; rw [decide_eq_true h1]; rfl) (k _ s1)
  · refine iteTb (by show (!decide (On ws us)) = true; rw [decide_eq_false h1]; rfl) ?_
    refine ⟨_, rfl, _, rfl, b, a, us, ws, rfl, s1 _ _ hB, s1 _ _ hA, c.swap, fun H2 s2 => ⟨_, rfl, ?_⟩⟩
    have e : decide (Shut ws us) = !decide (On us ws) := by
      by_cases h2 : On us ws
      · rw [decide_eq_true h2]; exact decide_eq_false fun q => q.2 h2
      · rw [decide_eq_false h2]; exact decide_eq_true ⟨h1, h2⟩
    rw [e] at k
    exact k _ (s1.trans s2)
/-! ### the law's own halves -/
theorem ok_Lfirsts (T : TX K mg) : Cal P w K mg base 1 "_law_firsts" ["_law_speech_here"] (spL C1 firsts) := by
  refine mk_cal (y := "_law_firsts") (st := s_Lfirsts) T 37 37 rfl rfl sc_Lfirsts (fun _ _ _ _ _ _ us hl => match us, hl with | [_], _ => rfl) (fun vs H Q E h => ?_) (fun cdv A outer s H vs Q E hr h => ?_)
  · obtain ⟨a, ws, rfl, _⟩ := h; rfl
  obtain ⟨a, ws, rfl, hL, hn, k⟩ := h
  refine ⟨_, pss_cons (ps_set (i := 1) sc_Lfirsts.nd rfl (.inl rfl) (pe_lst pa_nil))
    (pss_cons (ps_for PassesOwn.never rfl (pi_list (pv 0)) (pg_name (i := 2) sc_Lfirsts.nd rfl (.inl rfl))
      (pss_one (ps_if (pt_cmpR op_notIn_seq (pv 2) (pv 1) (by rfl)) (pss_one (ps_expr (pe_bm PySem.F.plainAttrs_list PySem.F.slot_list_append PySem.F.type_list_append mt_append (pv 1) (pa_cons (pv 2) pa_nil)))) pss_nil)))
    (pss_one (ps_ret (pv 1)))), ?_⟩
  refine ⟨by decide, fun f nf => ?_⟩
  refine ⟨_, rfl, a, rfl, ⟨_, SqL.of ((same_new nf) _ _ hL)⟩, for_list (K := K) (a := a) (xs := ws.map V.str) (fun i σ H2 => ∃ v, σ = [some (.ref a), some (.ref f), v] ∧ Same H H2 ∧ LS H2 f (firsts (ws.take i)))
    ⟨none, rfl, same_new nf, upd_same⟩ (fun i σ H2 _ ⟨_, _, s2, _⟩ => SqL.of (s2 _ _ hL)) ?_ ?_⟩
  · rintro i y σ H2 hi ⟨v, rfl, s2, hf⟩
    obtain ⟨x, hx, rfl⟩ := map_at hi
    have e1 := take_succ hx
    refine ⟨_, rfl, _, rfl, f, _, rfl, .inl (SqL.of hf), rfl, flat_strs _, _, rfl, ?_⟩
    rw [inV_str]
    by_cases hm : x ∈ firsts (ws.take i)
    · rw [decide_eq_true hm]
      refine iteF ⟨_, rfl, s2, ?_⟩
      rw [e1, firsts_snoc, if_pos hm]; exact hf
    · rw [decide_eq_false hm]
      refine iteT ?_
      have hl : (firsts (ws.take i)).length ≤ 1000 := Nat.le_trans (firsts_len _) (by rw [List.length_take]; unfold C1 at hn; omega)
      refine ⟨_, rfl, .inl ⟨rfl, _, SqL.of hf⟩, _, rfl, f, _, _, rfl, rfl, hf, small_line' (by rw [List.length_map]; omega), _, rfl, s2.put nf, ?_⟩
      show upd _ _ _ _ = _
      rw [upd_same, e1, firsts_snoc, if_neg hm, List.map_append]
      rfl
  · rintro σ H2 ⟨v, rfl, s2, hf⟩
    rw [List.length_map, List.take_length] at hf
    exact ⟨_, rfl, k H2 f s2 nf hf⟩

/-- the words by last places -/
def lasts (ws : List Str) : List Str := (firsts ws.reverse).reverse
theorem ok_Llasts (T : TX K mg) : Cal P w K mg base 2 "_law_lasts" ["_law_speech_here"] (spL C1 lasts) := by
  have G := ok_Lfirsts (P := P) (w := w) (base := base) T
  refine mk_cal (y := "_law_lasts") (st := s_Llasts) T 38 38 rfl rfl sc_Llasts (fun _ _ _ _ _ _ us hl => match us, hl with | [_], _ => rfl) (fun vs H Q E h => ?_) (fun cdv A outer s H vs Q E hr h => ?_)
  · obtain ⟨a, ws, rfl, _⟩ := h; rfl
  obtain ⟨a, ws, rfl, hL, hn, k⟩ := h
  refine ⟨_, pss_one (ps_ret (pe_revL (pc G hr (pa_cons (pe_revL (pv 0)) pa_nil)))), ?_⟩
  refine ⟨_, rfl, a, _, rfl, SqL.of hL, fun p np => ?_⟩
  refine ⟨p, ws.reverse, rfl, ?_, by unfold C1 at *; rw [List.length_reverse]; exact hn, fun H1 q s1 nq hq => ?_⟩
  · show upd _ _ _ _ = _
    rw [upd_same, List.map_reverse]
  have sA := (same_new np).trans s1
  refine ⟨q, _, rfl, SqL.of hq, fun t nt => k _ t (sA.new nt) (sA.free nt) ?_⟩
  show upd _ _ _ _ = _
  rw [upd_same, ← List.map_reverse]
  rfl
theorem ok_Llaid (T : TX K mg) : Cal P w K mg base 1 "_law_laid" ["_law_one", "_law_other"] (spL2 C2 laid) := by
  refine mk_cal (y := "_law_laid") (st := s_Llaid) T 39 39 rfl rfl sc_Llaid (fun _ _ _ _ _ _ us hl => match us, hl with | [_, _], _ => rfl) (fun vs H Q E h => ?_) (fun cdv A outer s H vs Q E hr h => ?_)
  · obtain ⟨a, b, ws, us, rfl, _⟩ := h; rfl
  obtain ⟨a, b, ws, us, rfl, hA, hB, ⟨hn1, hn2⟩, k⟩ := h
  refine ⟨_, pss_cons (ps_set (i := 2) sc_Llaid.nd rfl (.inl rfl) (pmin T (plen T (pv 0)) (plen T (pv 1))))
    (pss_cons (ps_while PassesOwn.never (pt_cmpR (op_neS hr.units0) (pe_slice sl_list (pv 0) (po_some (pe_op op_sub (plen T (pv 0)) (pv 2))) po_none) (pe_slice sl_list (pv 1) po_none (po_some (pv 2))) (nomark _))
      (pss_one (ps_set (i := 2) sc_Llaid.nd rfl (.inl rfl) (pe_op op_sub (pv 2) pe_int))))
    (pss_one (ps_ret (pe_op op_cat (pv 0) (pe_slice sl_list (pv 1) (po_some (pv 2)) po_none))))), ?_⟩
  refine ⟨_, rfl, a, _, rfl, .inl (SqL.of hA), _, rfl, b, _, rfl, .inl (SqL.of hB), _, _, rfl, ?_⟩
  rw [min_nat, List.length_map, List.length_map]
  refine ⟨fun m σ H2 => σ = [some (.ref a), some (.ref b), some (.int (m : Nat))] ∧ Same H H2 ∧ m ≤ min ws.length us.length ∧ laid ws us = laidN ws us m, ⟨_, rfl, .refl _, Nat.le_refl _, rfl⟩, ?_⟩
  rintro m σ H2 ⟨rfl, s2, hm, hl⟩
  have hA2 := s2 _ _ hA
  have hB2 := s2 _ _ hB
  refine ⟨_, rfl, _, rfl, a, _, rfl, .inl (SqL.of hA2), _, rfl, _, _, rfl, rfl, _, rfl, a, _, rfl, SqL.of hA2, fun p np => ?_⟩
  rw [List.length_map, sub_nat (show m ≤ ws.length by omega), cut_drop]
  refine ⟨_, rfl, _, rfl, _, rfl, b, _, rfl, SqL.of (same_new np _ _ hB2), fun q nq => ?_⟩
  rw [cut_take]
  have s3 : Same H (upd H2 p (.lst ((ws.drop (ws.length - m)).map V.str))) := s2.new np
  have s4 := s3.new (o := .lst ((us.take m).map V.str)) nq
  refine ⟨p, q, _, _, rfl, rfl, SqL.of (same_new nq _ _ upd_same), SqL.of upd_same, _, rfl, ?_⟩
  by_cases e : ws.drop (ws.length - m) = us.take m
  · refine iteFb (by rw [decide_eq_true e]; rfl) ?_
    refine ⟨_, rfl, _, rfl, _, rfl, _, rfl, b, _, rfl, SqL.of (s4 _ _ hB), fun r nr => ?_⟩
    rw [cut_drop]
    have s5 := s4.new (o := .lst ((us.drop m).map V.str)) nr
    refine ⟨a, r, _, _, rfl, rfl, s5 _ _ hA, upd_same, small_line (by rw [List.length_map, List.length_map, List.length_drop]; omega), fun t nt => k _ t (s5.new nt) (s5.free nt) ?_⟩
    show upd _ _ _ _ = _
    rw [upd_same, hl]
    cases m with
    | zero => unfold laidN; rw [List.drop_zero, List.map_append]
    | succ m =>
      show _ = some (HO.lst ((laidN ws us (m + 1)).map V.str))
      unfold laidN
      rw [if_pos e, List.map_append]
  · refine iteTb (by rw [decide_eq_false e]; rfl) ?_
    cases m with
    | zero =>
      exfalso; apply e
      rw [List.take_zero, Nat.sub_zero, List.drop_length]
    | succ m =>
      refine ⟨fun σ' H' => σ' = [some (.ref a), some (.ref b), some (.int (m : Nat))] ∧ Same H H', fun σ' H' ⟨e1, s'⟩ => ⟨m, Nat.lt_succ_self _, e1, s', by omega, ?_⟩, ?_⟩
      · rw [hl]
        show laidN ws us (m + 1) = _
        conv => lhs; unfold laidN
        rw [if_neg e]
      · refine ⟨_, rfl, _, _, rfl, rfl, ?_, s4⟩
        have : ((m + 1 : Nat) : Int) - 1 = (m : Int) := by omega
        show [some (V.ref a), some (V.ref b), some (V.int (((m + 1 : Nat) : Int) - 1))] = _
        rw [this]
theorem ok_Lshort (T : TX K mg) : ∀ n, n ≤ 6 → Cal P w K mg base (n + 4) "_law_short" ["_law_speech_here"] (spL (CF n) short)
  | 0, _ => by
    refine mk_cal (y := "_law_short") (st := s_Lshort) T 40 40 rfl rfl sc_Lshort (fun _ _ _ _ _ _ us hl => match us, hl with | [_], _ => rfl) (fun vs H Q E h => ?_) (fun cdv A outer s H vs Q E hr h => ?_)
    · obtain ⟨a, ws, rfl, _⟩ := h; rfl
    obtain ⟨a, ws, rfl, hL, ⟨hn, hf⟩, k⟩ := h
    refine ⟨_, pss_cons (ps_if (pt_cmpR (op_eqS hr.units0) (pv 0) (pe_lst pa_nil) (nomark _)) (pss_one (ps_ret (pe_lst pa_nil))) pss_nil) pss_never, ?_⟩
    have e := hf.zero
    subst e
    refine ⟨_, rfl, by decide, fun e ne => ⟨a, e, [], [], rfl, rfl, SqL.of (same_new ne _ _ hL), SqL.of upd_same, _, rfl, iteTb (decide_eq_true rfl) ?_⟩⟩
    exact ⟨by decide, fun p np => k _ p ((same_new ne).new np) ((same_new ne).free np) (by rw [short_nil]; exact upd_same)⟩
  | n + 1, hn6 => by
    have IH := ok_Lshort T n (by omega)
    have Gf := ok_Lfirsts (P := P) (w := w) (base := base) T
    have Gb := ok_Llasts (P := P) (w := w) (base := base) T
    have Gl := ok_Llaid (P := P) (w := w) (base := base) T
    refine mk_cal (y := "_law_short") (st := s_Lshort) T 40 40 rfl rfl sc_Lshort (fun _ _ _ _ _ _ us hl => match us, hl with | [_], _ => rfl) (fun vs H Q E h => ?_) (fun cdv A outer s H vs Q E hr h => ?_)
    · obtain ⟨a, ws, rfl, _⟩ := h; rfl
    obtain ⟨a, ws, rfl, hL, ⟨hn, hf⟩, k⟩ := h
    refine ⟨_, pss_cons (ps_if (pt_cmpR (op_eqS hr.units0) (pv 0) (pe_lst pa_nil) (nomark _)) (pss_one (ps_ret (pe_lst pa_nil))) pss_nil)
      (pss_cons (ps_par (i := 1) (j := 2) rfl sc_Lshort.nd rfl rfl (by decide) rfl rfl (pa_cons (pe_ix ix_list (pc Gf (hr.mono (by omega)) (pa_cons (pv 0) pa_nil)) (pe_un un_neg pe_int) (fun _ _ => rfl)) (pa_cons (pe_ix ix_list (pc Gb (hr.mono (by omega)) (pa_cons (pv 0) pa_nil)) pe_int (fun _ _ => rfl)) pa_nil)) (by rfl))
      (pss_cons (ps_set (i := 3) sc_Lshort.nd rfl (.inl rfl) (pe_slice sl_list (pv 0) po_none (po_some (pe_bm PySem.F.plainAttrs_list PySem.F.slot_list_index PySem.F.type_list_index mt_index (pv 0) (pa_cons (pv 1) pa_nil)))))
      (pss_cons (ps_set (i := 4) sc_Lshort.nd rfl (.inl rfl) (pe_slice sl_list (pv 0) (po_some (pe_op op_sub (plen T (pv 0)) (pe_bm PySem.F.plainAttrs_list PySem.F.slot_list_index PySem.F.type_list_index mt_index (pe_revL (pv 0)) (pa_cons (pv 2) pa_nil)))) po_none))
      (pss_one (ps_ret (pc Gl (hr.mono (by omega)) (pa_cons (pe_op op_cat (pc IH hr (pa_cons (pv 3) pa_nil)) (pe_lst (pa_cons (pv 1) pa_nil))) (pa_cons (pe_op op_cat (pe_lst (pa_cons (pv 2) pa_nil)) (pc IH hr (pa_cons (pv 4) pa_nil))) pa_nil)))))))), ?_⟩
    refine ⟨_, rfl, by decide, fun e ne => ⟨a, e, ws, [], rfl, rfl, SqL.of (same_new ne _ _ hL), SqL.of upd_same, _, rfl, ?_⟩⟩
    have sA : Same H (upd H e (.lst [])) := same_new ne
    refine ite_b (p := ws = []) decide_eq_true_iff (fun ew => ?_) (fun ew => ?_)
    · subst ew
      exact ⟨by decide, fun p np => k _ p (sA.new np) (sA.free np) (by rw [short_nil]; exact upd_same)⟩
    · obtain ⟨pp, x, b, tt, e1, e2⟩ := halves ew
      refine ⟨_, rfl, a, ws, rfl, sA _ _ hL, hn, fun H1 f s1 n1 hF => ?_⟩
      have ef : (firsts ws).map V.str = (firsts pp).map V.str ++ [V.str x] := by rw [firsts_fh e1, List.map_append]; rfl
      refine ⟨1, rfl, f, _, -1, _, rfl, rfl, SqL.of hF, by rw [ef]; exact atI_last _ _, ?_⟩
      have sB := sA.trans s1
      refine ⟨_, rfl, a, ws, rfl, sB _ _ hL, hn, fun H2 g s2 n2 hG => ?_⟩
      have eb : lh ws = some (b, tt) := e2
      have e3 : fh ws.reverse = some (tt.reverse, b) := by rw [fh_lh, List.reverse_reverse, List.reverse_reverse]; exact e2
      have eg : (lasts ws).map V.str = V.str b :: (firsts tt.reverse).reverse.map V.str := by
        unfold lasts
        rw [firsts_fh e3, List.reverse_append]
        rfl
      refine ⟨g, _, 0, _, rfl, rfl, SqL.of hG, by rw [eg]; exact atI_nat (j := 0) rfl, _, _, rfl, ?_⟩
      have sC := sB.trans s2
      obtain ⟨z, ez, hx, _⟩ := fh_shape e1
      obtain ⟨i1, i2⟩ := index_at ez hx
      refine ⟨_, rfl, _, rfl, .inl ⟨rfl, _, SqL.of (sC _ _ hL)⟩, _, rfl, a, _, .str x, pp.length, .str x, rfl, rfl, SqL.of (sC _ _ hL), rfl, flat_strs _, i1, by rw [eqV_strs]; exact beq_self_eq_true _, i2, _, rfl, a, _, rfl, SqL.of (sC _ _ hL), fun q nq => ?_⟩
      rw [cut_take]
      have et : ws.take pp.length = pp := by rw [ez]; simp
      rw [et]
      have sD := sC.new (o := .lst (pp.map V.str)) nq
      obtain ⟨z2, ez2, hx2, _⟩ := fh_shape e3
      obtain ⟨j1, j2⟩ := index_at ez2 hx2
      rw [List.length_reverse] at j1 j2
      refine ⟨_, rfl, _, rfl, a, _, rfl, .inl (SqL.of (sD _ _ hL)), _, rfl, a, _, rfl, SqL.of (sD _ _ hL), fun r nr => ?_⟩
      rw [← List.map_reverse]
      have sE := sD.new (o := .lst (ws.reverse.map V.str)) nr
      have hr1 : upd (upd H2 q (.lst (pp.map V.str))) r (.lst (ws.reverse.map V.str)) r = some (.lst (ws.reverse.map V.str)) := upd_same
      refine ⟨.inl ⟨rfl, _, SqL.of hr1⟩, _, rfl, r, _, .str b, tt.length, .str b, rfl, rfl, SqL.of hr1, rfl, flat_strs _, j1, by rw [eqV_strs]; exact beq_self_eq_true _, j2, _, _, rfl, rfl, _, rfl, a, _, rfl, SqL.of (sE _ _ hL), fun q2 nq2 => ?_⟩
      have ltt : tt.length ≤ ws.length := by have := lh_len e2; omega
      rw [List.length_map, sub_nat ltt, cut_drop]
      have ed : ws.drop (ws.length - tt.length) = tt := by
        obtain ⟨z3, ez3, _, _⟩ := lh_shape e2
        have e5 : ws = (z3 ++ [b]) ++ tt := by rw [ez3]; simp
        have e6 : ws.length - tt.length = (z3 ++ [b]).length := by
          have e7 := congrArg List.length e5
          rw [List.length_append] at e7
          omega
        rw [e6]
        conv => lhs; rw [e5]
        exact List.drop_left
      rw [ed]
      have sF := sE.new (o := .lst (tt.map V.str)) nq2
      have hq : LS (upd (upd (upd H2 q (.lst (pp.map V.str))) r (.lst (ws.reverse.map V.str))) q2 (.lst (tt.map V.str))) q pp := same_new nq2 _ _ (same_new nr _ _ upd_same)
      have hq2 : LS (upd (upd (upd H2 q (.lst (pp.map V.str))) r (.lst (ws.reverse.map V.str))) q2 (.lst (tt.map V.str))) q2 tt := upd_same
      generalize (upd (upd (upd H2 q (.lst (pp.map V.str))) r (.lst (ws.reverse.map V.str))) q2 (.lst (tt.map V.str))) = HH at sF hq hq2
      have lp : pp.length ≤ 1000 := by have := fh_len e1; omega
      have lt : tt.length ≤ 1000 := by omega
      refine ⟨_, rfl, q, pp, rfl, hq, ⟨lp, hf.fh e1⟩, fun H3 r s3 nr hr3 => ?_⟩
      have sD := sF.trans s3
      have bp := short_le (hf.fh e1) (by omega)
      have bt := short_le (hf.lh e2) (by omega)
      refine ⟨_, rfl, by show 1 ≤ sizeLine; decide, fun u nu => ?_⟩
      refine ⟨r, u, _, _, rfl, rfl, same_new nu _ _ hr3, upd_same, small_line (by rw [List.length_map]; show _ + 1 ≤ _; omega), fun y ny => ?_⟩
      have sE := (sD.new (o := .lst [V.str x]) nu)
      have sF := sE.new (o := .lst ((short pp).map V.str ++ [V.str x])) ny
      refine ⟨_, rfl, by show 1 ≤ sizeLine; decide, fun u2 nu2 => ?_⟩
      have sG := sF.new (o := .lst [V.str b]) nu2
      have hq2' : LS (upd (upd (upd H3 u (.lst [V.str x])) y (.lst ((short pp).map V.str ++ [V.str x]))) u2 (.lst [V.str b])) q2 tt := by
        have h3 : LS H3 q2 tt := s3 _ _ hq2
        exact ((((Same.refl H3).new nu).new ny).new nu2) _ _ h3
      refine ⟨_, rfl, q2, tt, rfl, hq2', ⟨lt, hf.lh e2⟩, fun H4 z s4 nz hz => ?_⟩
      refine ⟨u2, z, _, _, rfl, rfl, s4 _ _ upd_same, hz, small_line (by rw [List.length_map]; show 1 + _ ≤ _; omega), fun v nv => ?_⟩
      have sH := sG.trans s4
      have hy : LS (upd H4 v (.lst ([V.str b] ++ (short tt).map V.str))) y (short pp ++ [x]) := by
        have h1 : H4 y = some (.lst ((short pp).map V.str ++ [V.str x])) := s4 _ _ (same_new nu2 _ _ upd_same)
        show upd _ _ _ _ = _
        rw [upd_ne (ne_of_none h1 nv), h1, List.map_append]
        rfl
      have hv : LS (upd H4 v (.lst ([V.str b] ++ (short tt).map V.str))) v (b :: short tt) := upd_same
      refine ⟨y, v, _, _, rfl, hy, hv, ⟨by rw [List.length_append]; show _ + 1 ≤ _; omega, by rw [List.length_cons]; omega⟩, fun H5 o s5 no ho => ?_⟩
      refine k _ o ((sH.new nv).trans s5) ((sH.new nv).free no) ?_
      rw [short_eq e1 e2]
      exact ho
end
end Tw
end
section
/-! text S1 -/
set_option maxHeartbeats 4000000
namespace Tw
open PySem PySem.Spec PyProof.Rows L2
/-! ### sets of texts -/
theorem nodup_len {α : Type} [DecidableEq α] : ∀ (l D : List α), l.Nodup → (∀ x ∈ l, x ∈ D) → l.length ≤ D.length
  | [], _, _, _ => Nat.zero_le _
  | x :: l, D, nd, h => by
    obtain ⟨n1, n2⟩ := List.nodup_cons.mp nd
    have hx := h x List.mem_cons_self
    have ih := nodup_len l (D.erase x) n2 fun y hy => by
      rw [List.mem_erase_of_ne (show y ≠ x from fun e => n1 (e ▸ hy))]
      exact h y (List.mem_cons_of_mem _ hy)
    rw [List.length_erase_of_mem hx] at ih
    have : 0 < D.length := List.length_pos_of_mem hx
    rw [List.length_cons]
    omega
def kT (e : Int × Value) : Str := match e.2 with
  | .str x _ => x
  | _ => Str.empty
def GT (w : World) (e : Int × Value) : Prop := ∃ x tk, e.2 = Value.str x tk ∧ e.1 = hashStr w x
/-- the entries es and the table t are those of a set of just the texts xs -/
structure GS (w : World) (es : Array (Int × Value)) (t : SetTable) (xs : List Str) : Prop where
  good : ∀ e ∈ es.toList, GT w e
  nd : (es.toList.map kT).Nodup
  mem : ∀ x, x ∈ es.toList.map kT ↔ x ∈ xs
  lt : es.size < scanBound
  fit : t.fits es.size = true
  ris : Ris t.place.toList
  led : w.params.followText "set-order" = true ∨ t.led = true
def SetT (w : World) (h : Heap) (a : Addr) (xs : List Str) : Prop := ∃ o es ep t, h.get? a = some o ∧ o.ExactSet ∧ o.data = .set es ep t ∧ GS w es t xs
theorem GS.size {w : World} {es : Array (Int × Value)} {t : SetTable} {xs : List Str} (g : GS w es t xs) : es.size ≤ xs.length := by
  have := nodup_len _ xs g.nd fun x hx => (g.mem x).mp hx
  rwa [List.length_map, Array.length_toList] at this
theorem GS.perm {w : World} {es es' : Array (Int × Value)} {t t' : SetTable} {xs : List Str} (g : GS w es t xs) (p : es'.toList.Perm es.toList) (f : t'.fits es'.size = true) (r : Ris t'.place.toList) (l : t'.led = t.led) : GS w es' t' xs where
  good := fun e he => g.good e (p.mem_iff.mp he)
  nd := (p.map kT).nodup_iff.mpr g.nd
  mem := fun x => ((p.map kT).mem_iff).trans (g.mem x)
  lt := by rw [← Array.length_toList, p.length_eq, Array.length_toList]; exact g.lt
  fit := f
  ris := r
  led := g.led.imp id fun z => by rw [l]; exact z
theorem GS.congr {w : World} {es : Array (Int × Value)} {t : SetTable} {xs ys : List Str} (g : GS w es t xs) (h : ∀ x, x ∈ xs ↔ x ∈ ys) : GS w es t ys :=
  ⟨g.good, g.nd, fun x => (g.mem x).trans (h x), g.lt, g.fit, g.ris, g.led⟩
theorem SetT.congr {w : World} {h : Heap} {a : Addr} {xs ys : List Str} (g : SetT w h a xs) (e : ∀ x, x ∈ xs ↔ x ∈ ys) : SetT w h a ys :=
  let ⟨o, es, ep, t, h1, h2, h3, h4⟩ := g
  ⟨o, es, ep, t, h1, h2, h3, h4.congr e⟩
theorem SetT.at {w : World} {h h' : Heap} {a : Addr} {xs : List Str} (g : SetT w h a xs) (e : ∀ o, h.get? a = some o → h'.get? a = some o) : SetT w h' a xs :=
  let ⟨o, es, ep, t, h1, h2, h3, h4⟩ := g
  ⟨o, es, ep, t, e _ h1, h2, h3, h4⟩
theorem kT_is (P : Program) (w : World) {e : Int × Value} (g : GT w e) (k : Str) : (PySem.strKind P w).is k e.2 = true ↔ kT e = k := by
  obtain ⟨x, tk, h1, _⟩ := g
  unfold kT
  rw [h1]
  show decide (x = k) = true ↔ x = k
  exact decide_eq_true_iff
theorem elemsT (P : Program) {w : World} {l : List (Int × Value)} (g : ∀ e ∈ l, GT w e) : ElemsOf (PySem.strKind P w) l := fun e he => by
  obtain ⟨x, tk, h1, h2⟩ := g e he
  exact ⟨⟨x, by rw [h1]; exact PySem.strKind_is P w x tk, h2⟩, by rw [h1] <;> rfl⟩
section
variable {P : Program} {w : World} {A : Around} {E : Value → Shared → Prop} {s : Shared} {a : Addr} {xs : List Str}
/-- new entries and a new table are stored -/
theorem storeT {o : Obj} {es es' : Array (Int × Value)} {ep : Nat} {t t' : SetTable} {xs' : List Str} {Q : Unit → Shared → Prop} (ho : s.heap.get? a = some o) (hx : o.ExactSet) (hd : o.data = .set es ep t) (g : GS w es' t' xs')
    (hQ : ∀ h' o', Heap.SameBut a s.heap h' → h'.get? a = some o' → o'.ExactSet → o'.data = .set es' (ep + 1) t' → Q () { s with heap := h' }) : wpAny (model P w) A (storeSet a es' t') Q E s := by
  refine wpAny_storeSet_of ho hd ?_ (fits_of_scanBound g.lt)
  refine hQ _ { o with data := .set es' (ep + 1) t' } (Heap.SameBut.update _ a _) ?_ hx rfl
  have q := Heap.get?_update_self (Obj.putSet es' t') ho (by rw [putSet_of es' t' hd]; rfl)
  rw [putSet_of es' t' hd] at q
  exact q
/-- what is behind the laying of one more: stored, laid anew where it got too full -/
theorem tailT {g : Bool → Sem Unit} (hg : ∀ (b : Bool) (s₁ : Shared) (Q' : Unit → Shared → Prop), Q' () s₁ → wpAny (model P w) A (g b) Q' E s₁) {o : Obj} {es : Array (Int × Value)} {ep : Nat} {t : SetTable}
    (ho : s.heap.get? a = some o) (hx : o.ExactSet) (hd : o.data = .set es ep t) {es1 : Array (Int × Value)} {t2 : SetTable} {ys : List Str} (G : GS w es1 t2 ys) {wd : Bool} {R : Option Bool → Shared → Prop}
    (hR : ∀ h', Heap.SameBut a s.heap h' → SetT w h' a ys → R (some true) { s with heap := h' }) :
    wpAny (model P w) A (do
        storeSet a es1 t2
        if (!wd && t2.tooFull) = true then do
            g (relayAll t2 es1 (SetTable.grown es1.size)).2.2
            storeSet a (relayAll t2 es1 (SetTable.grown es1.size)).1 (relayAll t2 es1 (SetTable.grown es1.size)).2.1
            pure (some true)
          else pure (some true)) R E s := by
  refine wpAny_bind (storeT ho hx hd G fun h1 o1 sb1 ho1 hx1 hd1 => ?_)
  split
  · have G2 : GS w (relayAll t2 es1 (SetTable.grown es1.size)).1 (relayAll t2 es1 (SetTable.grown es1.size)).2.1 ys :=
      G.perm (relayAll_perm t2 es1 _) (relayAll_fits t2 es1 _) (relayAll_ris t2 es1 _) (relayAll_led t2 es1 _)
    refine wpAny_bind (hg _ _ _ ?_)
    refine wpAny_bind (storeT (s := { s with heap := h1 }) ho1 hx1 hd1 G2 fun h2 o2 sb2 ho2 hx2 hd2 => ?_)
    exact wpAny_pure (hR _ (sb1.trans sb2) ⟨o2, _, _, _, ho2, hx2, hd2, G2⟩)
  · exact wpAny_pure (hR _ sb1 ⟨o1, _, _, _, ho1, hx1, hd1, G⟩)
theorem addT {x : Str} {tk : Tok} {Q : Bool → Shared → Prop} (R : SetT w s.heap a xs) (room : xs.length + 1 < scanBound)
    (hQ : ∀ b h', Heap.SameBut a s.heap h' → SetT w h' a (xs ++ [x]) → Q b { s with heap := h' }) : wpAny (model P w) A (setAddHashed a (.str x tk) (hashStr w x)) Q E s := by
  obtain ⟨o, es, ep, t, ho, hx, hd, G⟩ := R
  have hkey : (PySem.strKind P w).is x (.str x tk) = true := PySem.strKind_is P w x tk
  have hsc : (Value.str x tk).scannable = true := rfl
  have hel := elemsT P G.good
  show wpAny _ A (setAddHashed a (.str x tk) ((PySem.strKind P w).hash x)) Q E s
  unfold setAddHashed setAddHashedIn
  refine wpAny_holding (wpAny_bind (wpAny_setState_of ho hd G.fit ?_))
  dsimp only
  rw [byScan_of hsc G.lt hel]
  simp only [↓reduceIte]
  unfold setAddByScan
  refine wpAny_bind (wpAny_bind (wpAny_rule (wpAny_bind (wpAny_setScan_of hkey ho hd G.fit hel ?_))))
  cases hfi : List.findIdx? (fun e => (PySem.strKind P w).is x e.2) es.toList with
  | some j =>
    dsimp only
    obtain ⟨hj, pj, _⟩ := List.findIdx?_eq_some_iff_getElem.mp hfi
    have hin : x ∈ xs := (G.mem x).mp (List.mem_map.mpr ⟨_, List.getElem_mem hj, (kT_is P w (G.good _ (List.getElem_mem hj)) x).mp pj⟩)
    refine wpAny_pure (wpAny_pure (hQ false s.heap (Heap.SameBut.refl a s.heap) ⟨o, es, ep, t, ho, hx, hd, G.congr fun y => ?_⟩))
    rw [List.mem_append, List.mem_singleton]
    exact ⟨.inl, fun z => z.elim id fun e => e ▸ hin⟩
  | none =>
    dsimp only
    have hnk : x ∉ es.toList.map kT := fun z => by
      obtain ⟨e, he, q⟩ := List.mem_map.mp z
      have c := List.findIdx?_eq_none_iff.mp hfi e he
      rw [(kT_is P w (G.good e he) x).mpr q] at c
      cases c
    have hgw : ∀ (b : Bool) {s₁ : Shared} {Q' : Unit → Shared → Prop}, Q' () s₁ → wpAny (model P w) A (match b with | true => rule "set.scan.the-table-gave-way" | false => pure ()) Q' E s₁ :=
      fun b s₁ Q' q => by cases b <;> first | exact wpAny_pure q | exact wpAny_rule q
    have pm := layNew_perm t es ((PySem.strKind P w).hash x) (.str x tk)
    have hf1 := layNew_fits t es ((PySem.strKind P w).hash x) (.str x tk)
    have hr1 := layNew_ris t es ((PySem.strKind P w).hash x) (.str x tk) G.ris
    have hl1 := layNew_led t es ((PySem.strKind P w).hash x) (.str x tk)
    generalize layNew t es ((PySem.strKind P w).hash x) (.str x tk) = Z at pm hf1 hr1 hl1 ⊢
    obtain ⟨es1, t1, wasD, gave⟩ := Z
    dsimp only at pm hf1 hr1 hl1 ⊢
    rw [Array.toList_push] at pm
    have pc : es1.toList.Perm (((PySem.strKind P w).hash x, Value.str x tk) :: es.toList) := pm.trans (List.perm_append_singleton _ _)
    have pk : (es1.toList.map kT).Perm (x :: es.toList.map kT) := pc.map kT
    have hsz : es1.size = es.size + 1 := by rw [← Array.length_toList, pc.length_eq, List.length_cons, Array.length_toList]
    have hle := G.size
    have mk : ∀ t' : SetTable, t'.fits es1.size = true → Ris t'.place.toList → t'.led = t.led → GS w es1 t' (xs ++ [x]) := fun t' f r l =>
      ⟨fun e he => by
        rcases List.mem_cons.mp (pc.mem_iff.mp he) with z | z
        · rw [z]; exact ⟨x, tk, rfl, rfl⟩
        · exact G.good e z, pk.nodup_iff.mpr (List.nodup_cons.mpr ⟨hnk, G.nd⟩), fun y => by
        rw [pk.mem_iff, List.mem_cons, G.mem y, List.mem_append, List.mem_singleton]
        exact Or.comm, by rw [hsz]; omega, f, r, G.led.imp id fun z => by rw [l]; exact z⟩
    refine wpAny_bind (hgw _ ?_)
    split
    · refine wpAny_bind ?_
      rw [hashByValue_scannable 8 hsc]
      refine wpAny_pure ?_
      refine tailT ?_ ho hx hd (mk _ ?_ ?_ ?_) ?_
      · intro b s₁ Q' q; cases b <;> first | exact wpAny_pure q | exact wpAny_rule q
      · first | (split <;> first | exact hf1 | exact SetTable.fits_plain_off hf1) | exact hf1
      · first | (split <;> exact hr1) | exact hr1
      · first | (split <;> exact hl1) | exact hl1
      · intro h' sb r; dsimp only; exact wpAny_pure (hQ _ h' sb r)
    · refine wpAny_bind (wpAny_pure ?_)
      simp only [↓reduceIte]
      refine tailT ?_ ho hx hd (mk _ hf1 hr1 hl1) ?_
      · intro b s₁ Q' q; cases b <;> first | exact wpAny_pure q | exact wpAny_rule q
      · intro h' sb r; dsimp only; exact wpAny_pure (hQ _ h' sb r)
end
end Tw
end
section
/-! text S2 -/
set_option maxHeartbeats 4000000
namespace Tw
open PySem PySem.Spec PyProof.Rows L2
section
variable {prog : Program} {w : World} {A : Around} {R : Result → Shared → Prop} {I : Addr} {fp wr : List Addr} {G : Array GenState → Array GenState → Prop} {n : Nat} {P : Nat → Value → Prop} {St : Nat → Shared → Prop}
theorem loopT (W : WalksS prog w A.in1 I fp wr G n P St) (S : Addr) (hSf : S ∉ fp) (ws : List Str) (hl : ws.length = n) (hval : ∀ i v, P i v → ∃ t, v = .str (ws.getD i Str.empty) t) (hb : n + 1 < scanBound) :
    ∀ (k i : Nat) (s : Shared), n - i = k → i ≤ n → St i s → SetT w s.heap S (ws.take i) → (∀ s', Moved (S :: wr) G s s' → SetT w s'.heap S ws → R (.ok (.ret .none)) s') →
      codeAny (model prog w) A (.builtin "set.update.loop" ⟨[.ref S, .ref I], []⟩) R s := by
  have hSw : S ∉ wr := fun h => hSf (W.sub _ h)
  have more : ∀ b ∈ wr, b ∈ S :: wr := fun b hb => List.mem_cons_of_mem _ hb
  intro k
  induction k with
  | zero =>
    intro i s hk hi hst hS hR
    have e : i = n := by omega
    subst e
    rw [List.take_of_length_le (by omega)] at hS
    refine codeAny_builtin PyProof.Rows.F.entry_set_update_loop ?_
    rw [Around.under_plainId PyProof.Rows.F.plain_set_update_loop _]
    show wpAny _ A.in1 (pyNext (.ref I) >>= _) _ _ s
    refine wpAny_bind (W.done s _ _ hst fun s' hm => ?_)
    show wpAny _ A.in1 (ret Value.none) _ _ s'
    exact wpAny_pure (hR s' (hm.mono more) (hS.at fun o e => hm.heap S o hSw e))
  | succ k ih =>
    intro i s hk hi hst hS hR
    have hlt : i < n := by omega
    refine codeAny_builtin PyProof.Rows.F.entry_set_update_loop ?_
    rw [Around.under_plainId PyProof.Rows.F.plain_set_update_loop _]
    show wpAny _ A.in1 (pyNext (.ref I) >>= _) _ _ s
    refine wpAny_bind (W.item i s _ _ hlt hst fun v s' hP hst' hm => ?_)
    obtain ⟨t, rfl⟩ := hval i v hP
    have hS' : SetT w s'.heap S (ws.take i) := hS.at fun o e => hm.heap S o hSw e
    show wpAny _ A.in1 (holding [Value.str (ws.getD i Str.empty) t] (setAdd S (.str (ws.getD i Str.empty) t)) >>= _) _ _ s'
    refine wpAny_bind (wpAny_holding ?_)
    unfold setAdd
    refine wpAny_holding ?_
    refine wpAny_bind ((PySem.strKind prog w).pyHash (k := ws.getD i Str.empty) (PySem.strKind_is _ _ _ _) ?_)
    refine addT (s := { s' with toks := s'.toks + 1 }) hS' (by rw [List.length_take]; omega) fun b h' sb hS2 => ?_
    have e1 : ws.take (i + 1) = ws.take i ++ [ws.getD i Str.empty] := by
      have : ws[i]? = some (ws.getD i Str.empty) := by
        rw [List.getD_eq_getElem?_getD, List.getElem?_eq_getElem (by omega)]
        rfl
      rw [List.take_add_one, this]
      rfl
    rw [← e1] at hS2
    refine wpAny_pure ⟨plainId_quiet PyProof.Rows.F.plain_set_update_loop _, ih (i + 1) _ (by omega) hlt (W.frame _ s' _ _ hst' (Nat.le_succ _) fun b hb o e => ?_) hS2 fun s'' hm'' hS'' => ?_⟩
    · rw [sb.2 b (fun h : b = S => hSf (by rw [← h]; exact hb))]; exact e
    · refine hR s'' (Moved.trans W.gtrans ((hm.mono more).then_heap (Nat.le_succ _) fun b o hb e => ?_) hm'') hS''
      rw [sb.2 b (fun h : b = S => hb (by rw [h]; exact List.mem_cons_self))]; exact e
end
/-- a fresh set -/
theorem freshT {w : World} {h : Heap} {a : Addr} (e : h.get? a = some { cls := .type "set", dict := none, data := .set #[] 0 (.fresh 0 0 (!w.params.followText "set-order")) }) : SetT w h a [] := by
  refine ⟨_, #[], 0, _, e, ⟨rfl, rfl, rfl⟩, rfl, ⟨fun e he => by simp at he, List.nodup_nil, fun x => by simp, by decide, rfl, List.Pairwise.nil, ?_⟩⟩
  cases w.params.followText "set-order" <;> simp [SetTable.fresh]
section
variable {prog : Program} {w : World} {A : Around} {E : Value → Shared → Prop} {s : Shared}
theorem newT (a : Value) {Q₁ : Value → Shared → Prop}
    (h : Q₁ (.ref s.heap.objs.size) { s with heap := s.heap.push { cls := .type "set", dict := none, data := .set #[] 0 (.fresh 0 0 (!w.params.followText "set-order")) } }) :
    codeAny (model prog w) A (.call (.builtin "set.__new__") ⟨[.type "set", a], []⟩) (wants Q₁ E) s := by
  refine codeAny_of_tree ?_
  show wpAny _ A.in1 (do checkBuiltinCall "set.__new__" ⟨[.type "set", a], []⟩; again (.builtin "set.__new__" ⟨[.type "set", a], []⟩)) _ _ s
  refine wpAny_bind (wpAny_of_eq (PySem.F.newCall_set_1 a) (wpAny_pure ⟨plainId_quiet PySem.F.plain_set_new _, codeAny_builtin PySem.F.entry_set_new ?_⟩))
  rw [Around.under_plainId PySem.F.plain_set_new _]
  unfold Builtin.«set.__new__» Builtin.Frozenset.newClass
  have hsub := sub_set_self
  obtain ⟨hp, g, d, tk, os⟩ := s
  dsimp only
  wp_walk
  refine wpAny_askSetting (wpAny_pure ?_)
  dsimp only
  simp only [newObj]
  exact wpAny_bind (wpAny_alloc (wpAny_pure (wpAny_pure h)))
/-- set(xs) of a list of texts -/
theorem setOfList {l : Addr} {items : Array Value} {ws : List Str} {Q : Value → Shared → Prop} (hh : A.handled = none) (hl : s.heap.IsList l items) (hi : Vals (ws.map V.str) items.toList) (hb : ws.length + 1 < scanBound)
    (h : ∀ (h' : Heap) (tk : Nat), SetT w h' s.heap.objs.size ws → (∀ b o, s.heap.get? b = some o → h'.get? b = some o) → Q (.ref s.heap.objs.size) { s with heap := h', toks := tk }) :
    wpAny (model prog w) A (call (.type "set") [.ref l]) Q E s := by
  obtain ⟨c, tl, hmro⟩ := PySem.F.called_set.mro
  have hmade := PySem.F.called_set.made
  have hsub := PySem.F.called_set.sub
  refine wpAny_call (codeAny_of_tree ?_)
  show wpAny _ _ (callAny (.type "set") _) _ _ _
  refine wpAny_pure ⟨Code.quiet_builtin _ (by decide +kernel), codeAny_builtin PySem.F.entry_type_call ?_⟩
  rw [Around.under_plain (weight_type_call_type "set" [.ref l] []) rfl]
  have h1 := PySem.F.called_set.notType
  have h2 := PySem.F.called_set.canCreate
  have hct := PySem.F.typeCall_set_1 (.ref l)
  repeat (any_goals (first | assumption | wp_step))
  refine codeAny_mono (newT (.ref l) (E := E) (Q₁ := fun obj s₁ => obj = .ref s.heap.objs.size ∧ s₁ = { s with heap := s.heap.push { cls := .type "set", dict := none, data := .set #[] 0 (.fresh 0 0 (!w.params.followText "set-order")) } }) ⟨rfl, rfl⟩) fun r s₁ hr => ?_
  cases r with
  | error e => exact hr
  | ok fl =>
    cases fl with
    | ret obj =>
      obtain ⟨rfl, rfl⟩ := hr
      generalize ho0 : ({ cls := .type "set", dict := none, data := .set #[] 0 (.fresh 0 0 (!w.params.followText "set-order")) } : Obj) = o0
      have hS : (s.heap.push o0).get? s.heap.objs.size = some o0 := Heap.get?_push_size _ (by rw [← ho0]; rfl)
      have hS0 : SetT w (s.heap.push o0) s.heap.objs.size [] := freshT (by rw [hS, ho0])
      have hT : Shared.TypeIs { s with heap := s.heap.push o0 } (.ref s.heap.objs.size) "set" := ⟨_, hS, by rw [← ho0]⟩
      have hli := PySem.F.called_set.init.lookup
      have hbi := PySem.F.called_set.init.bind (.ref s.heap.objs.size)
      repeat (any_goals (first | assumption | wp_step))
      refine codeAny_mono (codeAny_call_builtin (R := wants (fun r s₂ => r = .none ∧ ∃ h' tk, s₂ = { s with heap := h', toks := tk } ∧ SetT w h' s.heap.objs.size ws ∧ (∀ b o, s.heap.get? b = some o → h'.get? b = some o)) E) PySem.F.called_set.init.plain PySem.F.entry_set_init (check_set_init_1 hT ?_)) fun r₂ s₂ hr₂ => ?_
      · subst ho0
        have hl1 := hl.push ({ cls := .type "set", dict := none, data := .set #[] 0 (.fresh 0 0 (!w.params.followText "set-order")) } : Obj)
        obtain ⟨⟨ocls, odict, odata, oslots⟩, hol, hcl, nl, hdl⟩ := id hl1
        simp only at hcl hdl
        subst hcl; subst hdl
        have hsls := PySem.F.sub_list_set
        have hslf := PySem.F.sub_list_frozenset
        have hne : (Value.type "list" == Value.type "dict") = false := by decide
        unfold Builtin.«set.__init__» noKeywords Builtin.Frozenset.updateFrom
        generalize hPI : pyIter = PI
        wp_walk
        subst hPI
        refine wpAny_pyIter_list (by exact hl1) ?_
        refine wpAny_bind (wpAny_runValue ?_)
        have hlS : l < s.heap.objs.size := by obtain ⟨o, ho, _⟩ := id hl; exact Heap.lt_size ho
        have hh3 : A.in1.in1.in1.handled = none := by simp [hh]
        have sz1 : (s.heap.push ({ cls := .type "set", dict := none, data := .set #[] 0 (.fresh 0 0 (!w.params.followText "set-order")) } : Obj)).objs.size = s.heap.objs.size + 1 := Heap.size_push _ _
        have hneI : l ≠ (s.heap.push ({ cls := .type "set", dict := none, data := .set #[] 0 (.fresh 0 0 (!w.params.followText "set-order")) } : Obj)).objs.size := by rw [sz1]; exact Nat.ne_of_lt (Nat.lt_succ_of_lt hlS)
        have hSf : s.heap.objs.size ∉ [(s.heap.push ({ cls := .type "set", dict := none, data := .set #[] 0 (.fresh 0 0 (!w.params.followText "set-order")) } : Obj)).objs.size, l] := by
          rw [sz1]; simp only [List.mem_cons, List.not_mem_nil, or_false, not_or]
          exact ⟨Nat.ne_of_lt (Nat.lt_succ_self _), Nat.ne_of_gt hlS⟩
        have hlen : ws.length = items.size := by have := hi.length; rwa [List.length_map, Array.length_toList] at this
        refine loopT ((Walks.list hh3 _ l hneI items).toS) s.heap.objs.size hSf ws hlen (fun i v hv => strs_at hi (by rw [Array.getElem?_toList]; exact hv)) (by rw [← hlen]; exact hb) (items.size - 0) 0 _ (by omega) (Nat.zero_le _)
          ⟨⟨_, Heap.get?_push_size _ rfl, rfl, rfl⟩, (hl1.push _)⟩ (hS0.at fun o e => Heap.get?_push_of_some _ e) ?_
        intro s' hm hS'
        obtain ⟨h', g', d', tk', os'⟩ := s'
        have eg : g' = s.gens := hm.gens
        have ed : d' = s.drawn := hm.drawn
        have eo : os' = s.os := hm.os
        subst eg; subst ed; subst eo
        show wpAny _ _ _ _ _ _
        refine wpAny_pure ?_
        show wpAny _ _ (ret Value.none) _ _ _
        refine wpAny_pure ⟨rfl, h', tk', rfl, hS', fun b o e => ?_⟩
        have hbl := Heap.lt_size e
        have hb1 : b ≠ s.heap.objs.size := Nat.ne_of_lt hbl
        have hb2 : b ≠ (s.heap.push ({ cls := .type "set", dict := none, data := .set #[] 0 (.fresh 0 0 (!w.params.followText "set-order")) } : Obj)).objs.size := by rw [sz1]; exact Nat.ne_of_lt (Nat.lt_succ_of_lt hbl)
        exact hm.heap b o (by simp only [List.mem_cons, List.not_mem_nil, or_false, not_or]; exact ⟨hb1, hb2⟩) (Heap.get?_push_of_some _ (Heap.get?_push_of_some _ e))
      · cases r₂ with
        | error e => exact hr₂
        | ok fl₂ =>
          cases fl₂ with
          | ret r =>
            obtain ⟨rfl, h', tk, rfl, hS', hk'⟩ := hr₂
            repeat (any_goals (first | assumption | wp_step))
            exact h _ _ hS' hk'
          | _ => exact hr₂.elim
    | _ => exact hr.elim
end
end Tw
end
section
/-! text S3 -/
set_option maxHeartbeats 4000000
namespace Tw
open PySem PySem.Spec PyProof.Rows L2
theorem strsAre_of' : ∀ {ys : List Str} {us : List Value}, Vals (ys.map V.str) us → StrsAre us ys := fun r => L2.strsAre_of r
section
variable {prog : Program} {w : World} {A : Around} {E : Value → Shared → Prop} {s : Shared}
theorem strs_vals (w : World) : ∀ (l : List (Int × Value)), (∀ e ∈ l, GT w e) → StrsAre (l.map (·.2)) (l.map kT)
  | [], _ => .nil
  | e :: r, g => by
    obtain ⟨x, tk, h1, h2⟩ := g e List.mem_cons_self
    have ih := strs_vals w r fun e he => g e (List.mem_cons_of_mem _ he)
    have e1 : kT e = x := by unfold kT; rw [h1]
    rw [List.map_cons, List.map_cons, h1, e1]
    exact .cons x tk ih
theorem strsAre_perm : ∀ {us vs : List Value} {ws : List Str}, us.Perm vs → StrsAre vs ws → ∃ ys, StrsAre us ys ∧ ys.Perm ws := by
  intro us vs ws p
  induction p generalizing ws with
  | nil => intro h; exact ⟨ws, h, .refl _⟩
  | cons x p ih =>
    intro h
    cases h with
    | cons y t h' =>
      obtain ⟨ys, h1, h2⟩ := ih h'
      exact ⟨y :: ys, .cons y t h1, h2.cons y⟩
  | swap x y l =>
    intro h
    cases h with
    | cons a t h' =>
      cases h' with
      | cons b u h'' => exact ⟨_, .cons b u (.cons a t h''), List.Perm.swap _ _ _⟩
  | trans p q ih1 ih2 =>
    intro h
    obtain ⟨ys, h1, h2⟩ := ih2 h
    obtain ⟨zs, h3, h4⟩ := ih1 h1
    exact ⟨zs, h3, h4.trans h2⟩
/-- sorted(set) -/
theorem sortedT {a : Addr} {xs : List Str} {Q : Value → Shared → Prop} (R : SetT w s.heap a xs) (hh : A.handled = none) (h64 : ∃ W : List Str, W.length < 64 ∧ ∀ x ∈ xs, x ∈ W)
    (hQ : ∀ s' p (out : Array Value) (c : Nat) (ys : List Str), (∀ b o, s.heap.get? b = some o → s'.heap.get? b = some o) → s'.gens = s.gens → s'.os = s.os → s.heap.objs.size ≤ p →
      s'.heap.get? p = some (seqObj "list" out c) → StrsAre out.toList ys → ys.Nodup → (∀ x, x ∈ ys ↔ x ∈ xs) → Q (.ref p) s') : wpAny (model prog w) A (call (.builtin "sorted") [.ref a]) Q E s := by
  obtain ⟨o, es, ep, t, ho, hx, hd, G⟩ := R
  refine Calls.call_function_entry kind_sorted plain_sorted entry_sorted (args_sorted1 _) ?_
  unfold Builtin.«sorted»
  refine wpAny_bind (m := checkCount "sorted" 1 1 _) (wpAny_pure ?_)
  refine wpAny_bind (collect_set (A := A.in1) hh ⟨o, ho, hx.1, hd⟩ G.fit G.lt G.ris G.led fun s1 vs k1 hz g1 o1 pm => ?_)
  obtain ⟨ws, hS, pw⟩ := strsAre_perm pm (strs_vals w es.toList G.good)
  obtain ⟨W, w1, w2⟩ := h64
  have hle : es.size ≤ W.length := by
    have := nodup_len _ W G.nd fun x hx => w2 x ((G.mem x).mp hx)
    rwa [List.length_map, Array.length_toList] at this
  have hvl : vs.length = es.size := by rw [pm.length_eq, List.length_map, Array.length_toList]
  refine wpAny_bind (wpAny_newList ?_ (by rw [hvl, sizeLine_eq]; omega))
  have hoL : (s1.heap.push (seqObj "list" vs.toArray 0)).get? s1.heap.objs.size = some (seqObj "list" vs.toArray 0) := Heap.get?_push_size _ rfl
  refine wpAny_bind (wpAny_holding (wpAny_call_entry slot_list_sort ⟨_, hoL, rfl⟩ entry_list_sort (list_sort_treeK strKind_oneLt hoL hS.keysOf (fun v₁ v₂ rest e => keyKind_strs (by rw [← e]; exact hS)) (by rw [hvl]; omega) fun st' hp hs => ⟨_, rfl, ?_⟩) (args_list_sort _)))
  obtain ⟨ys, a1, a2, a3⟩ := sorted_out_str hS hp hs
  obtain ⟨c, hc⟩ := sortedHeap_at (vs := vs) (out := (arrOf st').map (·.2)) hoL
  have pn : ys.Perm (es.toList.map kT) := a2.trans pw
  refine wpAny_pure ⟨_, rfl, hQ _ s1.heap.objs.size ((arrOf st').map (·.2)) c ys (fun b u e => ?_) g1 o1 hz hc a1 (pn.nodup_iff.mpr G.nd) fun x => pn.mem_iff.trans (G.mem x)⟩
  have q := k1 b u e
  have hlt := Heap.lt_size q
  show (sortedHeap (s1.heap.push (seqObj "list" vs.toArray 0)) s1.heap.objs.size vs ((arrOf st').map (·.2))).get? b = some u
  rw [sortedHeap_old (Nat.ne_of_lt hlt) (by rw [size_push']; exact Nat.lt_succ_of_lt hlt)]
  exact Heap.get?_push_of_some _ q
end
/-! ### the layer's rules -/
/-- a set of just the texts xs -/
def SetTx (w : World) (a : Addr) (xs : List Str) : HO := .ext fun h => SetT w h a xs
section
variable {X : Cx}
theorem setTx_new {w : World} {P : Program} {H : Hp} {h : Heap} {a : Addr} {xs : List Str} (R : SetT w h a xs) : ObjOk P w H h a (SetTx w a xs) := by
  obtain ⟨o, es, ep, t, ho, r⟩ := id R
  exact ⟨R, ⟨o, ho⟩, fun h1 h2 R1 k => R1.at k⟩
theorem setTx_get {pins : List (Addr × Obj)} {σ : L2.St} {H : Hp} {s : Shared} {a : Addr} {xs : List Str} (I : Inv X pins σ H s) (ha : H a = some (SetTx X.w a xs)) : SetT X.w s.heap a xs := (I.hok a _ ha).1
/-- set(xs) -/
def rSetS (w : World) (K : PySem.W.Frag) : List V → Hp → VK → Prop := fun vs H Q => ∃ (l : Addr) (ws : List Str), vs = [.ref l] ∧ SqL K H l (ws.map V.str) ∧ ws.length ≤ 1000 ∧ ∀ p, H p = none → Q (.ref p) (upd H p (SetTx w p ws))
theorem cr_setS (hc : X.calm = true) : CallR X (.type "set") (rSetS X.w X.K) := by
  intro pins s σ H vs us Q I r h
  obtain ⟨l, ws, rfl, hl, hn, q⟩ := h
  rw [Vals.ref1 r]
  obtain ⟨its, rv, ⟨o, n, oh, oc, _, od⟩, _⟩ := I.list hl
  refine setOfList (items := its.toArray) (ws := ws) (I.ok.hd hc) ⟨o, oh, oc, n, od⟩ (by simpa using rv) (by unfold scanBound; omega) fun h' tk hS hk => ?_
  exact ⟨.ref _, _, I.laid (t' := tk) (fun b u e => hk b u e) (Nat.le_refl _) (setTx_new hS), rfl, q _ (I.hok.fresh (Nat.le_refl _))⟩
/-- len(set): at most so many as the texts that are told -/
def rLenS (w : World) : List V → Hp → VK → Prop := fun vs H Q => ∃ (a : Addr) (xs : List Str), vs = [.ref a] ∧ H a = some (SetTx w a xs) ∧ xs.length ≤ 1000 ∧ ∀ (n : Nat) (ys : List Str), ys.Nodup → (∀ x, x ∈ ys ↔ x ∈ xs) → ys.length = n → Q (.int n) H
theorem cr_lenS : CallR X (.builtin "len") (rLenS X.w) := by
  intro pins s σ H vs us Q I r h
  obtain ⟨a, xs, rfl, ha, hn, q⟩ := h
  rw [Vals.ref1 r]
  obtain ⟨o, es, ep, t, ho, hx, hd, G⟩ := setTx_get I ha
  have hle := G.size
  refine Calls.call_function_entry kind_len plain_len entry_len (args_len1 _) (wpAny_len_body_set ho hx hd G.fit (by omega) ?_)
  exact ⟨.int es.size, H, I.tok _, ⟨_, rfl⟩, q es.size _ G.nd G.mem (by rw [List.length_map, Array.length_toList])⟩
/-- sorted(set) -/
def rSortS (w : World) : List V → Hp → VK → Prop := fun vs H Q => ∃ (a : Addr) (xs : List Str), vs = [.ref a] ∧ H a = some (SetTx w a xs) ∧ (∃ W : List Str, W.length < 64 ∧ ∀ x ∈ xs, x ∈ W) ∧ ∀ (ys : List Str) (p : Addr), ys.Nodup → (∀ x, x ∈ ys ↔ x ∈ xs) → H p = none → Q (.ref p) (upd H p (.lst (ys.map V.str)))
theorem cr_sortS (hc : X.calm = true) : CallR X (.builtin "sorted") (rSortS X.w) := by
  intro pins s σ H vs us Q I r h
  obtain ⟨a, xs, rfl, ha, hn, q⟩ := h
  rw [Vals.ref1 r]
  refine sortedT (setTx_get I ha) (I.ok.hd hc) hn fun s' p out c ys k g o hp hg hi nd hm => ?_
  obtain ⟨W, w1, w2⟩ := hn
  have hl2 : ys.length ≤ W.length := nodup_len ys W nd fun x hx => w2 x ((hm x).mp hx)
  have hlen : (ys.map V.str).length ≤ sizeLine := small_line (by rw [List.length_map]; omega)
  have hf : H p = none := I.hok.fresh hp
  have J : Inv X pins σ (upd H p (.lst (ys.map V.str))) { s with heap := s'.heap, gens := s'.gens, drawn := s'.drawn, toks := s'.toks } :=
    I.call (ch := []) (Un.laid k hp hf) (I.hok.laid k hp ⟨hlen, out.toList, c, vals_of_strs hi, hg⟩) (by rw [g]; exact I.bare) (fun _ z => nomatch z)
  have e : s' = { s with heap := s'.heap, gens := s'.gens, drawn := s'.drawn, toks := s'.toks } := by
    cases s'; cases s; cases o; rfl
  rw [e]
  exact ⟨.ref p, _, J, rfl, q ys p nd hm hf⟩
end
end Tw
end
section
/-! text S4 -/
set_option maxHeartbeats 4000000
namespace Tw
open PySem PySem.Spec PyProof.Rows L2
/-! ### a table of any mask that is met as a whole is laid -/
def full (m : Nat) : Bool := (List.range (m + 1)).all fun i => (List.range (m + 1)).all fun j => (List.range (m + 1)).any fun k => lcgI m i k == j
theorem full7 : full 7 = true := by decide +kernel
theorem full15 : full 15 = true := by decide +kernel
theorem full31 : full 31 = true := by decide +kernel
theorem full_at {m : Nat} (h : full m = true) {i j : Nat} (hi : i ≤ m) (hj : j ≤ m) : ∃ k, k ≤ m ∧ lcgI m i k = j := by
  have h1 := List.all_eq_true.mp h i (List.mem_range.mpr (by omega))
  have h2 := List.all_eq_true.mp h1 j (List.mem_range.mpr (by omega))
  obtain ⟨k, hk, e⟩ := List.any_eq_true.mp h2
  have := List.mem_range.mp hk
  exact ⟨k, by omega, beq_iff_eq.mp e⟩
theorem free_hit {m : Nat} {owner : Array (Option Nat)} : ∀ (f i b n : Nat), n < f → i ≤ m → oAt owner (itL m i b n).1 = none → ∃ j, SetTable.layClean.free m owner f i b = some j
  | 0, _, _, n, h, _, _ => by omega
  | f + 1, i, b, n, h, hi, hn => by
    rw [free_succ]
    cases e : (List.range (SetTable.runEnd m i + 1 - i)).find? fun k => (oAt owner (i + k)).isNone with
    | some k => exact ⟨_, rfl⟩
    | none =>
      have e0 := List.find?_eq_none.mp e 0 (List.mem_range.mpr (by have := runEnd_bd hi; omega))
      cases n with
      | zero =>
        exfalso; apply e0
        have : oAt owner i = none := hn
        rw [Nat.add_zero, this]; rfl
      | succ n => exact free_hit f _ _ n (by omega) (leap_le m i b) hn
theorem free_none {m : Nat} {owner : Array (Option Nat)} : ∀ (f i b j : Nat), SetTable.layClean.free m owner f i b = some j → oAt owner j = none
  | 0, _, _, _, e => by cases e
  | f + 1, i, b, j, e => by
    rw [free_succ] at e
    cases q : (List.range (SetTable.runEnd m i + 1 - i)).find? fun k => (oAt owner (i + k)).isNone with
    | some k =>
      rw [q] at e
      have e1 : i + k = j := Option.some.inj e
      have := List.find?_some q
      rw [e1] at this
      exact Option.isNone_iff_eq_none.mp this
    | none =>
      rw [q] at e
      exact free_none f _ _ j e
/-- the first n are laid, and nothing else -/
structure Lay (m n : Nat) (owner : Array (Option Nat)) : Prop where
  sz : owner.size = m + 1
  all : ∀ k, k < n → ∃ j, j ≤ m ∧ oAt owner j = some k
  bd : ∃ ps : List Nat, ps.length = n ∧ ∀ j, j ≤ m → oAt owner j ≠ none → j ∈ ps
theorem oAt_lt {owner : Array (Option Nat)} {j : Nat} (h : oAt owner j = none) : j < owner.size := by
  refine Decidable.byContradiction fun c => ?_
  have : owner.getD j (some 0) = none := h
  rw [Array.getD_eq_getD_getElem?, Array.getElem?_eq_none (by omega)] at this
  cases this
theorem Lay.step {m n : Nat} {owner : Array (Option Nat)} (hm : full m = true) (W : Lay m n owner) (hn : n ≤ m) (h : Int) :
    ∃ j, SetTable.layClean.free m owner (SetTable.turns m) (SetTable.bits h % (m + 1)) (SetTable.bits h) = some j ∧ Lay m (n + 1) (owner.setIfInBounds j (some n)) := by
  obtain ⟨ps, p1, p2⟩ := W.bd
  obtain ⟨j0, q1, q2⟩ := st_missing ps (m + 1) (by omega)
  have q3 : oAt owner j0 = none := by
    cases z : oAt owner j0 with
    | none => rfl
    | some k => exact absurd (p2 j0 (by omega) (by rw [z]; exact Option.some_ne_none k)) q2
  obtain ⟨k, k1, k2⟩ := full_at hm (runI_le m (SetTable.bits h) 12) (show j0 ≤ m by omega)
  have hit : oAt owner (itL m (SetTable.bits h % (m + 1)) (SetTable.bits h) (12 + k)).1 = none := by
    rw [itL_run, runI_tail (bits_lt h), k2]
    exact q3
  obtain ⟨j, e⟩ := free_hit (SetTable.turns m) _ (SetTable.bits h) (12 + k) (by unfold SetTable.turns; omega) (show SetTable.bits h % (m + 1) ≤ m from Nat.le_of_lt_succ (Nat.mod_lt _ (Nat.succ_pos _))) hit
  have hf := free_none _ _ _ _ e
  have hl := oAt_lt hf
  have hs := oAt_set_self (some n) hl
  refine ⟨j, e, ⟨by rw [Array.size_setIfInBounds]; exact W.sz, fun i hi => ?_, j :: ps, by rw [List.length_cons, p1], fun i hi hne => ?_⟩⟩
  · by_cases c : i = n
    · subst c
      exact ⟨j, by have := W.sz; omega, hs⟩
    · obtain ⟨x, x1, x2⟩ := W.all i (by omega)
      refine ⟨x, x1, ?_⟩
      rw [oAt_set_ne _ fun z => by rw [z, hf] at x2; cases x2]
      exact x2
  · by_cases c : i = j
    · rw [c]; exact List.mem_cons_self
    · rw [oAt_set_ne _ c] at hne
      exact List.mem_cons_of_mem _ (p2 i hi hne)
theorem lay_all {m : Nat} (hm : full m = true) : ∀ (rest : List Int) (n : Nat) (owner : Array (Option Nat)), Lay m n owner → n + rest.length ≤ m + 1 →
    ∃ o', rest.foldl (stepF m) (some (owner, n)) = some (o', n + rest.length) ∧ Lay m (n + rest.length) o'
  | [], n, owner, W, _ => ⟨owner, rfl, W⟩
  | h :: rest, n, owner, W, hl => by
    rw [List.length_cons] at hl ⊢
    obtain ⟨j, e, W2⟩ := W.step hm (by omega) h
    obtain ⟨o', f, W3⟩ := lay_all hm rest (n + 1) _ W2 (by omega)
    refine ⟨o', ?_, ?_⟩
    · rw [List.foldl_cons, stepF_some e, f]
      have : n + 1 + rest.length = n + (rest.length + 1) := by omega
      rw [this]
    · have : n + 1 + rest.length = n + (rest.length + 1) := by omega
      rwa [this] at W3
theorem clean_ok {m : Nat} (hm : full m = true) {hs : Array Int} (hn : hs.size ≤ m) : ∃ owner, SetTable.layClean m hs = some owner ∧ Lay m hs.size owner := by
  obtain ⟨o, f, W⟩ := lay_all hm hs.toList 0 (Array.replicate (m + 1) none) ⟨by simp, fun k hk => by omega, [], rfl, fun j hj e => absurd (oAt_init hj) e⟩ (by rw [Array.length_toList]; omega)
  rw [Nat.zero_add, Array.length_toList] at W
  exact ⟨o, by rw [layClean_eq, f]; rfl, W⟩
theorem order_ok {m n : Nat} {owner : Array (Option Nat)} (W : Lay m n owner) : (((liveOf m owner).map (·.2)).toArray).toList.Perm (List.range n) := by
  obtain ⟨ps, p1, p2⟩ := W.bd
  have r : Ris ((liveOf m owner).map (·.1)) := (ris_live (fun j => owner.getD j none) (List.range (m + 1)) List.pairwise_lt_range).1
  have nd : ((liveOf m owner).map (·.1)).Nodup := by
    unfold Ris at r
    exact r.imp fun h => Nat.ne_of_lt h
  have a := nat_nodup_len ((liveOf m owner).map (·.1)) ps nd fun x hx => by
    obtain ⟨⟨y, k⟩, hq, ey⟩ := List.mem_map.mp hx
    have ey : y = x := ey
    subst ey
    obtain ⟨b1, b2⟩ := (mem_live W.sz).1 hq
    exact p2 y b1 (by rw [b2]; exact Option.some_ne_none k)
  have al : ∀ k, k < n → k ∈ (liveOf m owner).map (·.2) := fun k hk => by
    obtain ⟨j, b1, b2⟩ := W.all k hk
    exact List.mem_map.mpr ⟨(j, k), (mem_live W.sz).2 ⟨b1, b2⟩, rfl⟩
  have b := nat_nodup_len (List.range n) ((liveOf m owner).map (·.2)) List.nodup_range fun k hk => al k (List.mem_range.mp hk)
  rw [List.length_map, p1] at a
  rw [List.length_range, List.length_map] at b
  exact perm_range n _ (by show ((liveOf m owner).map (·.2)).length = n; rw [List.length_map]; omega) al
theorem pick_order {es : Array (Int × Value)} {order : Array Nat} (p : order.toList.Perm (List.range es.size)) : (order.filterMap (es[·]?)).toList.Perm es.toList := by
  rw [Array.toList_filterMap]
  have e := p.filterMap (fun i => es[i]?)
  rwa [filterMap_getElem?_range] at e
/-- a table laid clean holds a set's entries -/
theorem laid_ok {w : World} {m : Nat} {es : Array (Int × Value)} {t : SetTable} {xs : List Str} (hm : full m = true) (G : GS w es t xs) (hn : es.size ≤ m) (finger moves : Nat) (led plain : Bool) (hled : w.params.followText "set-order" = true ∨ led = true) :
    ∃ t' order, SetTable.laid m finger moves led plain (es.map (·.1)) = some (t', order) ∧ (order.filterMap (es[·]?)).size = es.size ∧ GS w (order.filterMap (es[·]?)) t' xs := by
  obtain ⟨owner, e, W⟩ := clean_ok hm (hs := es.map (·.1)) (by rw [Array.size_map]; exact hn)
  rw [Array.size_map] at W
  have po := order_ok W
  have pe := pick_order po
  have hsz : (order : Array Nat) → order.toList.Perm (List.range es.size) → (order.filterMap (es[·]?)).size = es.size := fun order p => by
    have := (pick_order p).length_eq
    rwa [Array.length_toList, Array.length_toList] at this
  have hl : (liveOf m owner).length = es.size := by
    have := po.length_eq
    rw [List.length_range] at this
    have q : ((liveOf m owner).map (·.2)).length = es.size := this
    rwa [List.length_map] at q
  refine ⟨{ mask := m, place := ((liveOf m owner).map (·.1)).toArray, dummies := #[], finger, led, moves, plain }, ((liveOf m owner).map (·.2)).toArray, ?_, hsz _ po, ?_⟩
  · unfold SetTable.laid
    rw [e]
    rfl
  · refine ⟨fun x hx => G.good x (pe.mem_iff.mp hx), (pe.map kT).nodup_iff.mpr G.nd, fun x => ((pe.map kT).mem_iff).trans (G.mem x), by rw [hsz _ po]; exact G.lt, ?_, ?_, hled⟩
    · unfold SetTable.fits SetTable.fill
      rw [hsz _ po]
      have : ((liveOf m owner).map (·.1)).toArray.size = es.size := by rw [List.size_toArray, List.length_map, hl]
      show (((liveOf m owner).map (·.1)).toArray.size == es.size && decide (((liveOf m owner).map (·.1)).toArray.size + (#[] : Array Nat).size ≤ m)) = true
      rw [this]
      simp [hn]
    · exact (ris_live (fun j => owner.getD j none) (List.range (m + 1)) List.pairwise_lt_range).1
end Tw
end
section
/-! text S5 -/
set_option maxHeartbeats 4000000
namespace Tw
open PySem PySem.Spec PyProof.Rows L2
section
variable {P : Program} {w : World} {A : Around} {E : Value → Shared → Prop} {s : Shared} {a b : Addr} {xs ys : List Str} {es : Array (Int × Value)} {ep : Nat} {t : SetTable} {o : Obj}
theorem fullAt (k : Nat) (h : k ≤ 16) : full (SetTable.sizeAbove k - 1) = true ∧ SetTable.sizeAbove k ≤ 128 ∧ 7 ≤ SetTable.sizeAbove k - 1 := by
  have key : (List.range 17).all (fun k => (SetTable.sizeAbove k == 8 || SetTable.sizeAbove k == 16 || SetTable.sizeAbove k == 32)) = true := by decide +kernel
  have q := List.all_eq_true.mp key k (List.mem_range.mpr (by omega))
  simp only [Bool.or_eq_true, beq_iff_eq] at q
  rcases q with (q | q) | q
  · rw [q]; exact ⟨full7, by decide, by decide⟩
  · rw [q]; exact ⟨full15, by decide, by decide⟩
  · rw [q]; exact ⟨full31, by decide, by decide⟩
/-- room for some more -/
theorem roomT (ho : s.heap.get? a = some o) (hx : o.ExactSet) (hd : o.data = .set es ep t) (G : GS w es t xs) {n : Nat} (h1 : es.size + n ≤ 8) (h0 : es.size ≤ 7) {Q : Unit → Shared → Prop}
    (hQ : ∀ h' o' es' ep' t', Heap.SameBut a s.heap h' → h'.get? a = some o' → o'.ExactSet → o'.data = .set es' ep' t' → GS w es' t' xs → es'.size = es.size → Q () { s with heap := h' }) : wpAny (model P w) A (setRoomFor a n) Q E s := by
  unfold setRoomFor
  refine wpAny_bind (wpAny_setState_of ho hd G.fit ?_)
  dsimp only
  have hsz : t.place.size = es.size := by
    have := G.fit
    unfold SetTable.fits at this
    rw [Bool.and_eq_true, beq_iff_eq] at this
    exact this.1
  unfold SetTable.roomFor
  split
  · rename_i wanted e
    split at e
    · have e1 : (t.place.size + n) * 2 = wanted := Option.some.inj e
      obtain ⟨f1, f2, f3⟩ := fullAt wanted (by omega)
      obtain ⟨t', order, r1, r2, r3⟩ := laid_ok (m := SetTable.sizeAbove wanted - 1) f1 G (by omega) t.finger (t.movedTo (SetTable.sizeAbove wanted - 1)) t.led t.plain G.led
      have r1' : t.relaid (es.map (·.1)) wanted = some (t', order) := r1
      rw [setRelay_eq]
      refine wpAny_bind (wpAny_setState_of ho hd G.fit ?_)
      dsimp only
      refine wp_if_neg (by rw [sizeLine_eq]; omega) ?_
      try refine wpAny_bind (wpAny_pure ?_)
      rw [r1']
      dsimp only
      refine wpAny_bind ?_
      refine wp_if_neg (by rw [r2]; simp) ?_
      try refine wpAny_bind (wpAny_pure ?_)
      refine wpAny_pure ?_
      exact storeT ho hx hd r3 fun h' o' sb ho' hx' hd' => hQ h' o' _ _ _ sb ho' hx' hd' r3 r2
    · cases e
  · exact wpAny_pure (hQ s.heap o es ep t (Heap.SameBut.refl a s.heap) ho hx hd G rfl)
/-- a walk of a set -/
theorem walkT (ho : s.heap.get? a = some o) (hd : o.data = .set es ep t) (G : GS w es t xs) {Q : Array (Int × Value) → Shared → Prop}
    (hQ : ∀ es' d, es'.toList.Perm es.toList → Q es' { s with drawn := d }) : wpAny (model P w) A (setWalk a) Q E s := by
  unfold setWalk
  refine wpAny_bind (wpAny_setState_of ho hd G.fit ?_)
  dsimp only
  refine wpAny_bind (wpAny_byText ?_)
  by_cases hb : w.params.followText "set-order" = true
  · refine wp_if_pos hb ?_
    exact wpAny_bind (wpAny_askSetting (wpAny_pure (hQ _ s.drawn (pick_perm _ _))))
  · refine wp_if_neg hb ?_
    try refine wpAny_bind (wpAny_pure ?_)
    have hl : t.led = true := G.led.resolve_left hb
    by_cases hw : (!t.plain && decide (es.size > 1)) = true
    · refine wp_if_pos hw ?_
      exact wpAny_bind (drawOrder_at _ _ _ _ (Nat.le_of_eq Array.length_toList) fun ys d p => wpAny_pure (hQ _ d (by simpa using p)))
    · refine wp_if_neg hw ?_
      try refine wpAny_bind (wpAny_pure ?_)
      refine wpAny_bind ?_
      show wpAny _ A (if (!t.led && es.size > 1) = true then unsupported "set:maker-not-led" else pure PUnit.unit) _ E s
      refine wp_if_neg (by rw [hl]; simp) ?_
      exact wpAny_pure (wpAny_pure (hQ es s.drawn (List.Perm.refl _)))
/-- sets of texts ask nothing -/
theorem quietT {Q : Bool → Shared → Prop} (l : List Addr) (hl : ∀ c ∈ l, ∃ xs, SetT w s.heap c xs) (h : Q true s) : wpAny (model P w) A (setsQuiet l) Q E s := by
  unfold setsQuiet
  refine wpAny_bind (wpAny_forIn_list _ (fun rest r s' => s' = s ∧ r.1 = none ∧ ∀ c ∈ rest, ∃ xs, SetT w s.heap c xs) _ ?_ ?_ _ _ ⟨rfl, rfl, hl⟩)
  · rintro c rest ⟨r1, r2⟩ s' ⟨rfl, rfl, hc⟩
    obtain ⟨xs, o, es, ep, t, ho, hx, hd, G⟩ := hc c List.mem_cons_self
    unfold setEntries
    refine wpAny_bind (wpAny_bind (wpAny_setState_of ho hd G.fit (wpAny_pure ?_)))
    dsimp only
    refine wpAny_bind (MeetsSeq2.wpAny_forIn_array _ (fun rest2 r s2 => s2 = s' ∧ r.1 = none ∧ ∀ e ∈ rest2, GT w e) _ ?_ ?_ _ _ ⟨rfl, rfl, G.good⟩)
    · rintro ⟨hh, v⟩ rest2 ⟨q1, q2⟩ s2 ⟨rfl, rfl, he⟩
      obtain ⟨x, tk, e1, e2⟩ := he _ List.mem_cons_self
      have e1 : v = .str x tk := e1
      subst e1
      dsimp only
      exact wpAny_pure ⟨rfl, rfl, fun e he' => he e (List.mem_cons_of_mem _ he')⟩
    · rintro ⟨q1, q2⟩ s2 ⟨rfl, rfl, _⟩
      exact wpAny_pure ⟨rfl, rfl, fun e he' => hc e (List.mem_cons_of_mem _ he')⟩
  · rintro ⟨q1, q2⟩ s2 ⟨rfl, rfl, _⟩
    exact wpAny_pure h
variable {eb : Array (Int × Value)} {epb : Nat} {tb : SetTable} {ob : Obj}
/-- the walk of a set that is put into another -/
theorem unseenT (hab : a ≠ b) (hA : SetT w s.heap a xs) (hob : s.heap.get? b = some ob) (hxb : ob.ExactSet) (hdb : ob.data = .set eb epb tb) (GB : GS w eb tb ys) {Q : Array (Int × Value) → Shared → Prop}
    (hQ : ∀ es' h' d, es'.toList.Perm eb.toList → Heap.SameBut a s.heap h' → SetT w h' a xs → Q es' { s with heap := h', drawn := d }) : wpAny (model P w) A (setWalkUnseen b [a] (some a)) Q E s := by
  unfold setWalkUnseen
  refine wpAny_bind (wpAny_setState_of hob hdb GB.fit ?_)
  dsimp only
  refine wpAny_bind (wpAny_byText ?_)
  by_cases h1 : (w.params.followText "set-order" || (tb.led && tb.plain) || decide (eb.size ≤ 1)) = true
  · refine wp_if_pos h1 ?_
    exact walkT hob hdb GB fun es' d p => hQ es' s.heap d p (Heap.SameBut.refl a s.heap) hA
  · refine wp_if_neg h1 ?_
    try refine wpAny_bind (wpAny_pure ?_)
    refine wpAny_bind (quietT [b, a] (fun c hc => ?_) ?_)
    · rcases List.mem_cons.mp hc with e | e
      · subst e; exact ⟨ys, ob, eb, epb, tb, hob, hxb, hdb, GB⟩
      · rw [List.mem_singleton.mp e]; exact ⟨xs, hA⟩
    · refine wp_if_neg (by simp) ?_
      try refine wpAny_bind (wpAny_pure ?_)
      refine wpAny_bind (wpAny_rule ?_)
      obtain ⟨oa, ea, epa, ta, hoa, hxa, hda, GA⟩ := id hA
      refine wpAny_bind (wpAny_setState_of hoa hda GA.fit ?_)
      dsimp only
      split
      · have hl : w.params.followText "set-order" = true ∨ tb.led = true := GB.led
        have G2 : GS w ea { ta with led := ta.led && tb.led, plain := ta.plain && tb.plain } xs := ⟨GA.good, GA.nd, GA.mem, GA.lt, GA.fit, GA.ris, by
          rcases GA.led with q | q
          · exact .inl q
          · rcases hl with q2 | q2
            · exact .inl q2
            · exact .inr (by show (ta.led && tb.led) = true; rw [q, q2]; rfl)⟩
        refine wpAny_bind (storeT hoa hxa hda G2 fun h' o' sb ho' hx' hd' => by
        exact wpAny_pure (hQ eb h' s.drawn (List.Perm.refl _) sb ⟨o', _, _, _, ho', hx', hd', G2⟩))
      · exact wpAny_pure (hQ eb s.heap s.drawn (List.Perm.refl _) (Heap.SameBut.refl a s.heap) hA)
theorem GS.none (G : GS w es t xs) (h : es.size = 0) (x : Str) : x ∉ xs := fun hx => by
  have := (G.mem x).mpr hx
  have e : es.toList = [] := List.length_eq_zero_iff.mp (by rw [Array.length_toList]; exact h)
  rw [e] at this
  cases this
theorem GS.psz (G : GS w es t xs) : t.place.size = es.size := by
  have := G.fit
  unfold SetTable.fits at this
  rw [Bool.and_eq_true, beq_iff_eq] at this
  exact this.1
/-- one set put into another that is as new -/
theorem mergeNew {each : Sem Unit} (hab : a ≠ b) (ho : s.heap.get? a = some o) (hx : o.ExactSet) (hd : o.data = .set es ep t) (G : GS w es t []) (hm : t.mask = 7) (hdm : t.dummies = #[])
    (hob : s.heap.get? b = some ob) (hxb : ob.ExactSet) (hdb : ob.data = .set eb epb tb) (GB : GS w eb tb ys) (hn : eb.size ≤ 4) {Q : Unit → Shared → Prop}
    (hQ : ∀ h' o' es' ep' t', Heap.SameBut a s.heap h' → h'.get? a = some o' → o'.ExactSet → o'.data = .set es' ep' t' → GS w es' t' ys → es'.size = eb.size → (es'.size = 0 → t'.mask = 7 ∧ t'.dummies = #[]) → Q () { s with heap := h' }) :
    wpAny (model P w) A (setMerge a b each) Q E s := by
  have h0 : es.size = 0 := by have := G.size; simpa using this
  unfold setMerge
  refine wp_if_neg (by simpa using hab) ?_
  try refine wpAny_bind (wpAny_pure ?_)
  refine wpAny_bind (wpAny_setState_of hob hdb GB.fit ?_)
  dsimp only
  by_cases he : eb.isEmpty = true
  · refine wp_if_pos he ?_
    have hz : eb.size = 0 := by simpa using he
    refine wpAny_pure (hQ s.heap o es ep t (Heap.SameBut.refl a s.heap) ho hx hd (G.congr fun x => ⟨fun h => absurd h List.not_mem_nil, fun h => absurd h (GB.none hz x)⟩) (by omega) fun _ => ⟨hm, hdm⟩)
  · refine wp_if_neg he ?_
    try refine wpAny_bind (wpAny_pure ?_)
    have hz : eb.size ≠ 0 := fun z => he (by simpa using z)
    have hfl : t.fill = 0 := by unfold SetTable.fill; rw [G.psz, hdm, h0]; rfl
    refine wpAny_bind ?_
    unfold setRoomFor
    refine wpAny_bind (wpAny_setState_of ho hd G.fit ?_)
    dsimp only
    have hr : t.roomFor eb.size = none := by
      unfold SetTable.roomFor
      rw [hfl, hm, if_neg (by omega)]
    rw [hr]
    dsimp only
    refine wpAny_pure ?_
    refine wpAny_bind (wpAny_setState_of ho hd G.fit ?_)
    dsimp only
    have hl : w.params.followText "set-order" = true ∨ (t.led && tb.led) = true := by
      rcases G.led with q | q
      · exact .inl q
      · rcases GB.led with q2 | q2
        · exact .inl q2
        · exact .inr (by rw [q, q2]; rfl)
    unfold SetTable.road
    rw [hfl]
    by_cases hs : (t.mask == tb.mask && tb.dummies.isEmpty) = true
    · simp only [hs, bne_self_eq_false, Bool.false_eq_true, if_false, if_true]
      have G2 : GS w eb { tb with finger := t.finger, led := t.led && tb.led, moves := t.moves, plain := t.plain && tb.plain } ys := ⟨GB.good, GB.nd, GB.mem, GB.lt, GB.fit, GB.ris, hl⟩
      exact storeT ho hx hd G2 fun h' o' sb ho' hx' hd' => hQ h' o' _ _ _ sb ho' hx' hd' G2 rfl fun z => absurd z hz
    · simp only [hs, bne_self_eq_false, Bool.false_eq_true, if_false]
      obtain ⟨t', order, r1, r2, r3⟩ := laid_ok (m := t.mask) (by rw [hm]; exact full7) GB (by omega) t.finger t.moves (t.led && tb.led) (t.plain && tb.plain) hl
      rw [r1]
      refine wpAny_bind ?_
      refine wp_if_neg (by rw [r2]; simp) ?_
      try refine wpAny_bind (wpAny_pure ?_)
      refine wpAny_pure ?_
      exact storeT ho hx hd r3 fun h' o' sb ho' hx' hd' => hQ h' o' _ _ _ sb ho' hx' hd' r3 r2 fun z => absurd (r2.symm.trans z) hz
/-- one set put into another -/
theorem mergeMore {each : Sem Unit} (hab : a ≠ b) (ho : s.heap.get? a = some o) (hx : o.ExactSet) (hd : o.data = .set es ep t) (G : GS w es t xs) (h0 : es.size ≠ 0) (h1 : es.size ≤ 4)
    (hob : s.heap.get? b = some ob) (hxb : ob.ExactSet) (hdb : ob.data = .set eb epb tb) (GB : GS w eb tb ys) (hn : eb.size ≤ 4) (hl : xs.length + ys.length ≤ 1000)
    (hea : ∀ (s1 : Shared) (R : Unit → Shared → Prop), s1.heap.get? b = some ob → R () s1 → wpAny (model P w) A each R E s1) {Q : Unit → Shared → Prop}
    (hQ : ∀ h' d, Heap.SameBut a s.heap h' → SetT w h' a (xs ++ ys) → Q () { s with heap := h', drawn := d }) :
    wpAny (model P w) A (setMerge a b each) Q E s := by
  unfold setMerge
  refine wp_if_neg (by simpa using hab) ?_
  try refine wpAny_bind (wpAny_pure ?_)
  refine wpAny_bind (wpAny_setState_of hob hdb GB.fit ?_)
  dsimp only
  by_cases he : eb.isEmpty = true
  · refine wp_if_pos he ?_
    have hz : eb.size = 0 := by simpa using he
    refine wpAny_pure (hQ s.heap s.drawn (Heap.SameBut.refl a s.heap) ⟨o, es, ep, t, ho, hx, hd, G.congr fun x => ?_⟩)
    rw [List.mem_append]
    exact ⟨.inl, fun h => h.elim id fun q => absurd q (GB.none hz x)⟩
  · refine wp_if_neg he ?_
    try refine wpAny_bind (wpAny_pure ?_)
    refine wpAny_bind (roomT ho hx hd G (by omega) (by omega) fun h1 o1 es1 ep1 t1 sb1 ho1 hx1 hd1 G1 hz1 => ?_)
    refine wpAny_bind (wpAny_setState_of ho1 hd1 G1.fit ?_)
    dsimp only
    have hf : (t1.fill != 0) = true := by
      have : t1.fill ≠ 0 := by unfold SetTable.fill; have := G1.psz; omega
      simpa using this
    unfold SetTable.road
    rw [hf]
    simp only [if_true]
    have hob1 : h1.get? b = some ob := by rw [sb1.2 b (Ne.symm hab)]; exact hob
    refine wpAny_bind (unseenT (s := { s with heap := h1 }) hab ⟨o1, es1, ep1, t1, ho1, hx1, hd1, G1⟩ hob1 hxb hdb GB fun es2 h2 d pm sb2 hA2 => ?_)
    have hlen : es2.toList.length = eb.size := by rw [pm.length_eq, Array.length_toList]
    refine wpAny_bind (MeetsSeq2.wpAny_forIn_array _ (fun rest _ s' => ∃ h' zs, s' = { s with heap := h', drawn := d } ∧ Heap.SameBut a s.heap h' ∧ SetT w h' a zs ∧ zs.length + rest.length ≤ 1000 + 8 ∧ (∀ e ∈ rest, GT w e) ∧ ∀ x, (x ∈ zs ∨ x ∈ rest.map kT) ↔ x ∈ xs ++ ys) _ ?_ ?_ _ _
      ⟨h2, xs, rfl, sb1.trans sb2, hA2, by omega, fun e he => GB.good e (pm.mem_iff.mp he), fun x => ?_⟩)
    · rintro ⟨hh, v⟩ rest r s' ⟨h', zs, rfl, sb, hZ, hl2, hg, hm⟩
      obtain ⟨x, tk, e1, e2⟩ := hg _ List.mem_cons_self
      have e1 : v = .str x tk := e1
      have e2 : hh = hashStr w x := e2
      subst e1; subst e2
      dsimp only
      rw [List.length_cons] at hl2
      refine wpAny_bind (wpAny_holding (addT (s := { s with heap := h', drawn := d }) hZ (by unfold scanBound; omega) fun bb h3 sb3 hZ3 => ?_))
      have hob3 : h3.get? b = some ob := by rw [sb3.2 b (Ne.symm hab), sb.2 b (Ne.symm hab)]; exact hob
      refine wpAny_bind (hea _ _ hob3 ?_)
      refine wpAny_bind (wpAny_setState_of hob3 hdb GB.fit ?_)
      dsimp only
      refine wp_if_neg (by simp) ?_
      try refine wpAny_bind (wpAny_pure ?_)
      refine wpAny_pure ⟨h3, zs ++ [x], rfl, sb.trans sb3, hZ3, by rw [List.length_append, List.length_singleton]; omega, fun e he => hg e (List.mem_cons_of_mem _ he), fun y => ?_⟩
      rw [← hm y, List.mem_append, List.mem_singleton, List.map_cons, List.mem_cons]
      show _ ↔ _ ∨ y = x ∨ _
      exact or_assoc
    · rintro r s' ⟨h', zs, rfl, sb, hZ, hl2, hg, hm⟩
      exact wpAny_pure (hQ h' d sb (hZ.congr fun x => by rw [← hm x]; simp))
    · rw [(pm.map kT).mem_iff, GB.mem x, List.mem_append]
end
end Tw
end
section
/-! text S6 -/
set_option maxHeartbeats 4000000
namespace Tw
open PySem PySem.Spec PyProof.Rows L2
theorem entry_set_or : entryFor table "set.__or__" = some Builtin.«frozenset.__or__» :=
  entryFor_alias (id' := "frozenset.__or__") (by rw [fastTable_eq_tree]; kernel_rfl) (by first | rfl | decide +kernel) (by decide +kernel) (by rw [fastTable_eq_tree]; kernel_rfl)
section
variable {P : Program} {w : World} {A : Around} {E : Value → Shared → Prop} {s : Shared} {a b : Addr} {xs ys : List Str}
theorem newSetT {Q : Value → Shared → Prop} (h : Q (.ref s.heap.objs.size) { s with heap := s.heap.push { cls := .type "set", dict := none, data := .set #[] 0 (.fresh 0 0 (!w.params.followText "set-order")) } }) :
    wpAny (model P w) A (newSet (.type "set")) Q E s := by
  unfold newSet
  refine wpAny_bind (wpAny_byText ?_)
  dsimp only
  simp only [newObj]
  exact wpAny_bind (wpAny_alloc (wpAny_pure h))
theorem anyT {v : Value} {Q : Bool → Shared → Prop} (hT : s.TypeIs v "set") (h : Q true s) : wpAny (model P w) A (Builtin.Frozenset.isAnySet v) Q E s := by
  unfold Builtin.Frozenset.isAnySet orM
  refine wpAny_bind (wpAny_isInstance (b := true) hT sub_set_self ?_)
  exact wpAny_pure h
theorem orT {Q : Value → Shared → Prop} (hab : a ≠ b) (hA : SetT w s.heap a xs) (hB : SetT w s.heap b ys) (n1 : ∃ W : List Str, W.length ≤ 4 ∧ ∀ x ∈ xs, x ∈ W) (n2 : ∃ W : List Str, W.length ≤ 4 ∧ ∀ x ∈ ys, x ∈ W) (hl : xs.length + ys.length ≤ 1000)
    (hQ : ∀ h' d, (∀ c o, s.heap.get? c = some o → h'.get? c = some o) → SetT w h' s.heap.objs.size (xs ++ ys) → Q (.ref s.heap.objs.size) { s with heap := h', drawn := d }) :
    wpAny (model P w) A (binaryOp .BitOr (.ref a) (.ref b)) Q E s := by
  obtain ⟨oa, ea, epa, ta, hoa, hxa, hda, GA⟩ := id hA
  obtain ⟨ob, eb, epb, tb, hob, hxb, hdb, GB⟩ := id hB
  have sz : ∀ {es : Array (Int × Value)} {t : SetTable} {zs : List Str}, GS w es t zs → (∃ W : List Str, W.length ≤ 4 ∧ ∀ x ∈ zs, x ∈ W) → es.size ≤ 4 := fun {es t zs} G ⟨W, w1, w2⟩ => by
    have := nodup_len _ W G.nd fun x hx => w2 x ((G.mem x).mp hx)
    rw [List.length_map, Array.length_toList] at this
    omega
  have h1 := sz GA n1
  have h2 := sz GB n2
  have hTa : s.TypeIs (.ref a) "set" := ⟨oa, hoa, hxa.1⟩
  have hTb : s.TypeIs (.ref b) "set" := ⟨ob, hob, hxb.1⟩
  have hsub := sub_set_self
  refine wpAny_binaryOp_same (op := .BitOr) (T := "set") hTa hTb PySem.F.fills_set_or PySem.F.slot_set_or (wpAny_call_entry PySem.F.slot_set_or hTa entry_set_or ?_ (PySem.F.args_set_or_2 _ _))
  unfold Builtin.«frozenset.__or__»
  show wpAny _ _ (do
    let (l, r) : Value × Value := (.ref a, .ref b)
    if !(← Builtin.Frozenset.isAnySet l <&&> Builtin.Frozenset.isAnySet r) then rule _; return ← ret .notImplemented
    ret (← (do
      let result ← Builtin.Frozenset.copyOf a
      if (Value.ref b) != .ref a then holding [result] (Builtin.Frozenset.updateFrom "frozenset.__or__" (← Builtin.Frozenset.addrOf result) (.ref b))
      return result : Sem Value))) _ _ _
  dsimp only
  refine wpAny_bind ?_
  unfold andM
  refine wpAny_bind (anyT hTa ?_)
  show wpAny _ _ (Builtin.Frozenset.isAnySet (.ref b)) _ _ s
  refine anyT hTb ?_
  refine wp_if_neg (by simp) ?_
  try refine wpAny_bind (wpAny_pure ?_)
  refine wpAny_bind ?_
  refine wpAny_bind ?_
  unfold Builtin.Frozenset.copyOf Builtin.Frozenset.baseOf
  refine wpAny_bind (wpAny_bind (wpAny_isInstance (b := true) hTa sub_set_self (wpAny_pure ?_)))
  refine wpAny_bind (newSetT ?_)
  refine wpAny_bind (wpAny_pure ?_)
  generalize ho0 : ({ cls := .type "set", dict := none, data := .set #[] 0 (.fresh 0 0 (!w.params.followText "set-order")) } : Obj) = o0
  have hS : (s.heap.push o0).get? s.heap.objs.size = some o0 := Heap.get?_push_size _ (by rw [← ho0]; rfl)
  have hx0 : o0.ExactSet := by rw [← ho0]; exact ⟨rfl, rfl, rfl⟩
  have hd0 : o0.data = .set #[] 0 (.fresh 0 0 (!w.params.followText "set-order")) := by rw [← ho0]
  have G0 : GS w #[] (.fresh 0 0 (!w.params.followText "set-order")) [] := ⟨fun e he => by simp at he, List.nodup_nil, fun x => by simp, by decide, rfl, List.Pairwise.nil, by
    cases w.params.followText "set-order" <;> simp [SetTable.fresh]⟩
  have hla := Heap.lt_size hoa
  have hlb := Heap.lt_size hob
  refine wpAny_bind (mergeNew (s := { s with heap := s.heap.push o0 }) (a := s.heap.objs.size) (b := a) (Nat.ne_of_gt hla) hS hx0 hd0 G0 rfl rfl (Heap.get?_push_of_some _ hoa) hxa hda GA h1 fun h' o' es' ep' t' sb ho' hx' hd' G' hz' hq' => ?_)
  refine wpAny_pure ?_
  have hne : ((Value.ref b) != .ref a) = true := by
    have : b ≠ a := Ne.symm hab
    simpa using this
  refine wp_if_pos hne ?_
  refine wpAny_bind (wpAny_pure ?_)
  have hra : s.heap.objs.size ≠ a := Nat.ne_of_gt hla
  have hrb : s.heap.objs.size ≠ b := Nat.ne_of_gt hlb
  have hob' : h'.get? b = some ob := by
    rw [sb.2 b (Ne.symm hrb)]
    exact Heap.get?_push_of_some _ hob
  have keep : ∀ {h2 : Heap}, Heap.SameBut s.heap.objs.size h' h2 → ∀ c u, s.heap.get? c = some u → h2.get? c = some u := fun {h2} sb2 c u e => by
    have hlc := Heap.lt_size e
    rw [sb2.2 c (Nat.ne_of_lt hlc), sb.2 c (Nat.ne_of_lt hlc)]
    exact Heap.get?_push_of_some _ e
  refine wpAny_bind (wpAny_holding ?_)
  unfold Builtin.Frozenset.updateFrom
  refine wpAny_bind (anyT ⟨ob, hob', hxb.1⟩ ?_)
  refine wp_if_pos rfl ?_
  refine wpAny_bind (wpAny_pure ?_)
  unfold Builtin.Frozenset.merge
  have hep : ∀ (s1 : Shared) (R : Nat → Shared → Prop), s1.heap.get? b = some ob → R epb s1 → wpAny (model P w) A.in1 (setEpoch b) R E s1 := fun s1 R h r => by
    unfold setEpoch
    exact wpAny_bind (wpAny_setState_of h hdb GB.fit (wpAny_pure r))
  refine wpAny_bind (hep _ _ hob' ?_)
  have hea : ∀ (s1 : Shared) (R : Unit → Shared → Prop), s1.heap.get? b = some ob → R () s1 → wpAny (model P w) A.in1 (Builtin.Frozenset.unchanged "frozenset.__or__" b epb) R E s1 := fun s1 R h r => by
    unfold Builtin.Frozenset.unchanged
    refine wpAny_bind (hep _ _ h ?_)
    refine wp_if_neg (by simp) ?_
    exact wpAny_pure r
  by_cases hz : es'.size = 0
  · have nx : ∀ x, x ∉ xs := G'.none hz
    refine mergeNew (s := { s with heap := h' }) hrb ho' hx' hd' (G'.congr fun x => ⟨fun h => absurd h (nx x), fun h => absurd h List.not_mem_nil⟩) (hq' hz).1 (hq' hz).2 hob' hxb hdb GB h2 fun h2 o2 es2 ep2 t2 sb2 ho2 hx2 hd2 G2 hz2 hq2 => ?_
    refine wpAny_pure (wpAny_pure ⟨_, rfl, by simp, hQ h2 s.drawn (keep sb2) ⟨o2, es2, ep2, t2, ho2, hx2, hd2, G2.congr fun x => ?_⟩⟩)
    rw [List.mem_append]
    exact ⟨.inr, fun h => h.elim (fun q => absurd q (nx x)) id⟩
  · refine mergeMore (s := { s with heap := h' }) hrb ho' hx' hd' G' hz (by omega) hob' hxb hdb GB h2 hl hea fun h2 d sb2 hR => ?_
    exact wpAny_pure (wpAny_pure ⟨_, rfl, by simp, hQ h2 d (keep sb2) hR⟩)
end
end Tw
end
section
/-! text S7 -/
set_option maxHeartbeats 4000000
namespace Tw
open PySem PySem.Spec PyProof.Rows L2
section
variable {X : Cx}
/-- set | set -/
def rOrS (w : World) : R2 := fun x y H Q => ∃ (a b : Addr) (xs ys : List Str), x = .ref a ∧ y = .ref b ∧ a ≠ b ∧ H a = some (SetTx w a xs) ∧ H b = some (SetTx w b ys) ∧ (∃ W : List Str, W.length ≤ 4 ∧ ∀ x ∈ xs, x ∈ W) ∧ (∃ W : List Str, W.length ≤ 4 ∧ ∀ x ∈ ys, x ∈ W) ∧ xs.length + ys.length ≤ 1000 ∧
  ∀ p, H p = none → Q (.ref p) (upd H p (SetTx w p (xs ++ ys)))
theorem op_orS : OpR X (binaryOp .BitOr) (rOrS X.w) := by
  intro pins s σ H x y v u Q I rx ry h
  obtain ⟨a, b, xs, ys, rfl, rfl, hab, ha, hb, n1, n2, hl, q⟩ := h
  cases rx; cases ry
  refine orT hab (setTx_get I ha) (setTx_get I hb) n1 n2 hl fun h' d k hS => ?_
  have hf : H s.heap.objs.size = none := I.hok.fresh (Nat.le_refl _)
  have J : Inv X pins σ (upd H s.heap.objs.size (SetTx X.w s.heap.objs.size (xs ++ ys))) { s with heap := h', gens := s.gens, drawn := d, toks := s.toks } :=
    I.call (ch := []) (Un.laid k (Nat.le_refl _) hf) (I.hok.laid k (Nat.le_refl _) (setTx_new hS)) I.bare (fun _ z => nomatch z)
  exact ⟨.ref _, _, J, rfl, q _ hf⟩
end
end Tw
end
section
/-! text W4 -/
set_option maxHeartbeats 4000000
namespace Tw
open PySem PySem.Spec PyProof.Rows L2
theorem bo_int : bootBuiltins "int" = some (.type "int") := by decide +kernel
theorem bo_set : bootBuiltins "set" = some (.type "set") := by decide +kernel
theorem bo_sorted : bootBuiltins "sorted" = some (.builtin "sorted") := by decide +kernel
section
variable {P : Program} {w : World} {K : PySem.W.Frag} {mg : Str → Option Value} {base : Heap}
theorem ok_Llike (T : TX K mg) : Cal P w K mg base 9 "_law_like" ["_law_one", "_law_other"] (spB2 CF2 fun ws us => decide (Sim ws us)) := by
  have G := ok_Lshort (P := P) (w := w) (base := base) T 4 (by decide)
  refine mk_cal (y := "_law_like") (st := s_Llike) T 41 41 rfl rfl sc_Llike (fun _ _ _ _ _ _ us hl => match us, hl with | [_, _], _ => rfl) (fun vs H Q E h => ?_) (fun cdv A outer s H vs Q E hr h => ?_)
  · obtain ⟨a, b, ws, us, rfl, _⟩ := h; rfl
  obtain ⟨a, b, ws, us, rfl, hA, hB, ⟨c1, c2⟩, k⟩ := h
  refine ⟨_, pss_one (ps_ret (pe_cmpR (op_eqS hr.units0) (pc G hr (pa_cons (pv 0) pa_nil)) (pc G hr (pa_cons (pv 1) pa_nil)) (nomark _))), ?_⟩
  refine ⟨_, rfl, a, ws, rfl, hA, c1, fun H1 p s1 n1 hp => ?_⟩
  refine ⟨_, rfl, b, us, rfl, s1 _ _ hB, c2, fun H2 q s2 n2 hq => ?_⟩
  exact ⟨p, q, _, _, rfl, rfl, SqL.of (s2 _ _ hp), SqL.of hq, k _ (s1.trans s2)⟩
/-- how two talks stand -/
def standS (u v : List Str) : Str := if Sim u v then "alike" else if On u v ∨ On v u then "open" else "shut"
def spStand : Sp := fun vs H Q _ => ∃ (a b : Addr) (ws us : List Str), vs = [.ref a, .ref b] ∧ LS H a ws ∧ LS H b us ∧ CJ ws us ∧ ∀ H', Same H H' → Q (.str (standS ws us)) H'
theorem CJ.jr {ws us : List Str} (c : CJ ws us) : CF2 (us ++ ws) ws := c.swap.j
theorem ok_Lstand (T : TX K mg) : Cal P w K mg base 10 "_law_stand" ["_law_one", "_law_other"] spStand := by
  have G := ok_Llike (P := P) (w := w) (base := base) T
  refine mk_cal (y := "_law_stand") (st := s_Lstand) T 42 42 rfl rfl sc_Lstand (fun _ _ _ _ _ _ us hl => match us, hl with | [_, _], _ => rfl) (fun vs H Q E h => ?_) (fun cdv A outer s H vs Q E hr h => ?_)
  · obtain ⟨a, b, ws, us, rfl, _⟩ := h; rfl
  obtain ⟨a, b, ws, us, rfl, hA, hB, c, k⟩ := h
  refine ⟨_, pss_cons (ps_if (pt_val (pc G hr (pa_cons (pv 0) (pa_cons (pv 1) pa_nil)))) (pss_one (ps_ret pe_str)) pss_nil)
    (pss_one (ps_ret (pe_ix ix_list (pe_lst (pa_cons pe_str (pa_cons pe_str pa_nil))) (pe_callTy call_int1 rfl (T.free 50 rfl) bo_int (pa_cons (pe_or (pc G hr (pa_cons (pe_op op_cat (pv 0) (pv 1)) (pa_cons (pv 1) pa_nil))) (pe_one (pc G hr (pa_cons (pe_op op_cat (pv 1) (pv 0)) (pa_cons (pv 0) pa_nil))))) pa_nil)) (fun _ _ => rfl)))), ?_⟩
  refine ⟨_, rfl, _, rfl, a, b, ws, us, rfl, hA, hB, c.l, fun H1 s1 => ⟨_, rfl, ?_⟩⟩
  unfold standS at k
  by_cases e1 : Sim ws us
  · rw [if_pos e1] at k
    exact iteTb (decide_eq_true e1) (k _ s1)
  · rw [if_neg e1] at k
    refine iteFb (decide_eq_false e1) ?_
    refine ⟨by decide, fun q nq => ?_⟩
    have sq := s1.new (o := .lst [V.str "shut", V.str "open"]) nq
    refine ⟨_, rfl, _, rfl, a, b, _, _, rfl, rfl, sq _ _ hA, sq _ _ hB, small_line (by rw [List.length_map, List.length_map]; have := c.1; have := c.2.1; omega), fun p np => ?_⟩
    have sp := sq.new (o := .lst (ws.map V.str ++ us.map V.str)) np
    have hp : LS (upd (upd H1 q (.lst [V.str "shut", V.str "open"])) p (.lst (ws.map V.str ++ us.map V.str))) p (ws ++ us) := by
      show upd _ _ _ _ = _
      rw [upd_same, List.map_append]
    have hq : upd (upd H1 q (.lst [V.str "shut", V.str "open"])) p (.lst (ws.map V.str ++ us.map V.str)) q = some (.lst [V.str "shut", V.str "open"]) := same_new np _ _ upd_same
    generalize upd (upd H1 q (.lst [V.str "shut", V.str "open"])) p (.lst (ws.map V.str ++ us.map V.str)) = HH at sp hp hq
    refine ⟨_, rfl, p, b, _, us, rfl, hp, sp _ _ hB, c.j, fun H2 s2 => ?_⟩
    have s3 := sp.trans s2
    refine ⟨_, rfl, ?_⟩
    by_cases e2 : On ws us
    · refine iteTb (decide_eq_true e2) ?_
      rw [if_pos (.inl e2)] at k
      exact .inr ⟨_, rfl, q, _, 1, _, rfl, rfl, SqL.of (s2 _ _ hq), rfl, k _ s3⟩
    · refine iteFb (decide_eq_false e2) ?_
      refine ⟨_, rfl, _, rfl, b, a, _, _, rfl, rfl, s3 _ _ hB, s3 _ _ hA, small_line (by rw [List.length_map, List.length_map]; have := c.1; have := c.2.1; omega), fun p2 np2 => ?_⟩
      have s4 := s3.new (o := .lst (us.map V.str ++ ws.map V.str)) np2
      have hp2 : LS (upd H2 p2 (.lst (us.map V.str ++ ws.map V.str))) p2 (us ++ ws) := by
        show upd _ _ _ _ = _
        rw [upd_same, List.map_append]
      refine ⟨_, rfl, p2, a, _, ws, rfl, hp2, s4 _ _ hA, c.jr, fun H3 s5 => ?_⟩
      have hq3 : H3 q = some (.lst [V.str "shut", V.str "open"]) := s5 _ _ (same_new np2 _ _ (s2 _ _ hq))
      have s6 := s4.trans s5
      by_cases e3 : On us ws
      · rw [if_pos (.inr e3)] at k
        refine .inr ⟨true, by show [V.bl (decide (Sim (us ++ ws) ws))] = _; rw [decide_eq_true (show Sim (us ++ ws) ws from e3)], q, _, 1, _, rfl, rfl, SqL.of hq3, rfl, k _ s6⟩
      · rw [if_neg (fun z => z.elim e2 e3)] at k
        refine .inr ⟨false, by show [V.bl (decide (Sim (us ++ ws) ws))] = _; rw [decide_eq_false (show ¬ Sim (us ++ ws) ws from e3)], q, _, 0, _, rfl, rfl, SqL.of hq3, rfl, k _ s6⟩
/-! ### words_of, behind_last -/
def spWo : Sp := fun vs H Q _ => ∃ (a : Addr) (ws : List Str), vs = [.ref a] ∧ LS H a ws ∧ C1 ws ∧ Few 60 ws ∧ ∀ H' p ys, Same H H' → H p = none → ys.Nodup → (∀ x, x ∈ ys ↔ x ∈ ws) → LS H' p ys → Q (.ref p) H'
theorem ok_words_of (T : TX K mg) : Cal P w K mg base 1 "words_of" ["speech"] spWo := by
  refine mk_cal (y := "words_of") (st := s_words_of) T 5 5 rfl rfl sc_words_of (fun _ _ _ _ _ _ us hl => match us, hl with | [_], _ => rfl) (fun vs H Q E h => ?_) (fun cdv A outer s H vs Q E hr h => ?_)
  · obtain ⟨a, ws, rfl, _⟩ := h; rfl
  obtain ⟨a, ws, rfl, hA, c1, ⟨W, w1, w2⟩, k⟩ := h
  refine ⟨_, pss_one (ps_ret (pe_callB (cr_sortS rfl) rfl (T.free 56 rfl) bo_sorted (pa_cons (pe_callTy (cr_setS rfl) rfl (T.free 55 rfl) bo_set (pa_cons (pv 0) pa_nil)) pa_nil))), ?_⟩
  refine ⟨_, rfl, a, ws, rfl, SqL.of hA, c1, fun p np => ?_⟩
  refine ⟨p, ws, rfl, upd_same, ⟨W, by omega, w2⟩, fun ys q nd hm nq => ?_⟩
  have s2 := (same_new (o := SetTx w p ws) np).new (o := .lst (ys.map V.str)) nq
  exact k _ q ys s2 ((same_new (o := SetTx w p ws) np).free nq) nd hm upd_same
def spBl : Sp := fun vs H Q _ => ∃ (a : Addr) (ws y rest : List Str) (b : Str), vs = [.ref a, .str b] ∧ LS H a ws ∧ C1 ws ∧ ws = y ++ b :: rest ∧ b ∉ rest ∧ ∀ H' p, Same H H' → H p = none → LS H' p rest → Q (.ref p) H'
theorem ok_behind_last (T : TX K mg) : Cal P w K mg base 2 "behind_last" ["speech", "word"] spBl := by
  have Gt := ok_turned (P := P) (w := w) (base := base) T
  refine mk_cal (y := "behind_last") (st := s_behind_last) T 23 23 rfl rfl sc_behind_last (fun _ _ _ _ _ _ us hl => match us, hl with | [_, _], _ => rfl) (fun vs H Q E h => ?_) (fun cdv A outer s H vs Q E hr h => ?_)
  · obtain ⟨a, ws, y, rest, b, rfl, _⟩ := h; rfl
  obtain ⟨a, ws, y, rest, b, rfl, hA, c1, e, hb, k⟩ := h
  refine ⟨_, pss_cons (ps_set (i := 2) sc_behind_last.nd rfl (.inl rfl) (pc Gt hr (pa_cons (pv 0) pa_nil)))
    (pss_one (ps_ret (pc Gt hr (pa_cons (pe_slice sl_list (pv 2) po_none (po_some (pe_bm PySem.F.plainAttrs_list PySem.F.slot_list_index PySem.F.type_list_index mt_index (pv 2) (pa_cons (pv 1) pa_nil)))) pa_nil)))), ?_⟩
  refine ⟨_, rfl, a, ws, rfl, hA, trivial, fun H1 p s1 n1 hp => ?_⟩
  have er : ws.reverse = rest.reverse ++ b :: y.reverse := by rw [e]; simp
  obtain ⟨i1, i2⟩ := index_at er (fun z => hb (List.mem_reverse.mp z))
  refine ⟨_, rfl, _, rfl, .inl ⟨rfl, _, SqL.of hp⟩, _, rfl, p, _, .str b, rest.reverse.length, .str b, rfl, rfl, SqL.of hp, rfl, flat_strs _, i1, by rw [eqV_strs]; exact beq_self_eq_true _, i2, _, rfl, p, _, rfl, SqL.of hp, fun q nq => ?_⟩
  rw [cut_take]
  have et : ws.reverse.take rest.reverse.length = rest.reverse := by rw [er]; simp
  rw [et]
  have s2 := s1.new (o := .lst (rest.reverse.map V.str)) nq
  refine ⟨q, rest.reverse, rfl, upd_same, trivial, fun H2 r s3 n3 hr3 => ?_⟩
  rw [List.reverse_reverse] at hr3
  exact k _ r (s2.trans s3) (s2.free n3) hr3
end
end Tw
end
section
/-! text W5 -/
set_option maxHeartbeats 4000000
namespace Tw
open PySem PySem.Spec PyProof.Rows L2
section
variable {P : Program} {w : World} {K : PySem.W.Frag} {mg : Str → Option Value} {base : Heap}
def spWay (n : Nat) (C : List Str → List Str → Prop) : Sp := fun vs H Q _ => ∃ (a b : Addr) (u v : List Str), vs = [.ref a, .ref b] ∧ LS H a u ∧ LS H b v ∧ CJ u v ∧ Few n v ∧ On u v ∧ C u v ∧ ∀ H' p r, Same H H' → H p = none → LS H' p r → Row n u v r → Q (.ref p) H'
/-- the word that comes first the latest is in the one that stands ahead -/
def third (u v : List Str) : Prop := u ≠ [] ∧ ∃ p a, fh v = some (p, a) ∧ a ∈ u
theorem last_split {α : Type} {b : α} : ∀ {u : List α}, b ∈ u → ∃ y rest, u = y ++ b :: rest ∧ b ∉ rest
  | [], h => absurd h List.not_mem_nil
  | x :: u, h => by
    by_cases hb : b ∈ u
    · obtain ⟨y, rest, e, n⟩ := last_split hb
      exact ⟨x :: y, rest, by rw [e]; rfl, n⟩
    · rcases List.mem_cons.mp h with e | e
      · exact ⟨[], u, by rw [e]; rfl, hb⟩
      · exact absurd e hb
theorem pow16 {n : Nat} (h : n ≤ 3) : 2 ^ (n + 1) ≤ 16 := Nat.le_trans (Nat.pow_le_pow_right (by decide) (show n + 1 ≤ 4 by omega)) (by decide)
theorem way_zero (T : TX K mg) : Cal P w K mg base 12 "way_on" ["u", "v"] (spWay 0 fun _ _ => True) := by
  have Gs := ok_shortest (P := P) (w := w) (base := base) T 4 (by decide)
  refine mk_cal (y := "way_on") (st := s_way_on) T 24 24 rfl rfl sc_way_on (fun _ _ _ _ _ _ us hl => match us, hl with | [_, _], _ => rfl) (fun vs H Q E h => ?_) (fun cdv A outer s H vs Q E hr h => ?_)
  · obtain ⟨a, b, ws, us, rfl, _⟩ := h; rfl
  obtain ⟨a, b, u, v, rfl, hA, hB, c, fw, on, _, k⟩ := h
  refine ⟨_, pss_cons (ps_if (pt_cmpR (op_eqS hr.units0) (pv 0) (pe_lst pa_nil) (nomark _)) (pss_one (ps_ret (pc Gs (hr.mono (by omega)) (pa_cons (pv 1) pa_nil)))) pss_nil) pss_never, ?_⟩
  have ev := fw.zero
  subst ev
  have eu := on_nil on
  subst eu
  refine ⟨_, rfl, by decide, fun e ne => ⟨a, e, [], [], rfl, rfl, SqL.of (same_new ne _ _ hA), SqL.of upd_same, _, rfl, iteTb (decide_eq_true rfl) ?_⟩⟩
  have s1 := same_new (o := .lst []) ne
  refine ⟨_, rfl, b, [], rfl, s1 _ _ hB, c.l.2, fun H1 p s2 np hp => k H1 p _ (s1.trans s2) (s1.free np) hp (row_nil fw)⟩
theorem way_body (T : TX K mg) (n k : Nat) (hn : n ≤ 3) (hk : 12 ≤ k) {S C : List Str → List Str → Prop} (Glow : Cal P w K mg base k "way_on" ["u", "v"] (spWay n fun _ _ => True)) (Gsame : Cal P w K mg base k "way_on" ["u", "v"] (spWay (n + 1) S))
    (hC : ∀ u v p a, C u v → fh v = some (p, a) → a ∉ u → S (p ++ [a]) v) : Cal P w K mg base (k + 1) "way_on" ["u", "v"] (spWay (n + 1) C) := by
  have Gs := ok_shortest (P := P) (w := w) (base := base) T 4 (by decide)
  have Gf := ok_first_half (P := P) (w := w) (base := base) T
  have Gb := ok_last_half (P := P) (w := w) (base := base) T
  have Gw := ok_words_of (P := P) (w := w) (base := base) T
  have Gl := ok_behind_last (P := P) (w := w) (base := base) T
  have Gc := ok_comes_on (P := P) (w := w) (base := base) T
  refine mk_cal (y := "way_on") (st := s_way_on) T 24 24 rfl rfl sc_way_on (fun _ _ _ _ _ _ us hl => match us, hl with | [_, _], _ => rfl) (fun vs H Q E h => ?_) (fun cdv A outer s H vs Q E hr h => ?_)
  · obtain ⟨a, b, ws, us, rfl, _⟩ := h; rfl
  obtain ⟨a, b, u, v, rfl, hA, hB, c, fw, on, hc, k⟩ := h
  refine ⟨_, pss_cons (ps_if (pt_cmpR (op_eqS hr.units0) (pv 0) (pe_lst pa_nil) (nomark _)) (pss_one (ps_ret (pc Gs (hr.mono (by omega)) (pa_cons (pv 1) pa_nil)))) pss_nil)
    (pss_cons (ps_asg (pc Gf (hr.mono (by omega)) (pa_cons (pv 1) pa_nil)) (pg_tup rfl (pgs_cons (pg_name (i := 2) sc_way_on.nd rfl (.inl rfl)) (pgs_cons (pg_name (i := 3) sc_way_on.nd rfl (.inl rfl)) pgs_nil))))
    (pss_cons (ps_if (pt_cmpR op_notIn_seq (pv 3) (pc Gw (hr.mono (by omega)) (pa_cons (pv 0) pa_nil)) (by rfl))
      (pss_one (ps_ret (pe_op op_cat (pe_op op_cat (pc Glow hr (pa_cons (pv 0) (pa_cons (pv 2) pa_nil))) (pe_lst (pa_cons (pv 3) pa_nil))) (pc Gsame hr (pa_cons (pe_op op_cat (pv 2) (pe_lst (pa_cons (pv 3) pa_nil))) (pa_cons (pv 1) pa_nil)))))) pss_nil)
    (pss_cons (ps_asg (pc Gb (hr.mono (by omega)) (pa_cons (pv 1) pa_nil)) (pg_tup rfl (pgs_cons (pg_name (i := 4) sc_way_on.nd rfl (.inl rfl)) (pgs_cons (pg_name (i := 5) sc_way_on.nd rfl (.inl rfl)) pgs_nil))))
    (pss_cons (ps_set (i := 6) sc_way_on.nd rfl (.inl rfl) (pc Gl (hr.mono (by omega)) (pa_cons (pv 0) (pa_cons (pv 4) pa_nil))))
    (pss_cons (ps_if (pt_val (pc Gc (hr.mono (by omega)) (pa_cons (pv 6) (pa_cons (pv 5) pa_nil)))) (pss_one (ps_ret (pc Glow hr (pa_cons (pv 6) (pa_cons (pv 5) pa_nil))))) pss_nil)
    (pss_one (ps_ret (pe_op op_cat (pe_lst (pa_cons (pv 4) pa_nil)) (pc Gs (hr.mono (by omega)) (pa_cons (pv 5) pa_nil)))))))))), ?_⟩
  obtain ⟨cu, cv, cf⟩ := c
  have fu : Few 4 u := cf.sub fun x hx => List.mem_append_left _ hx
  have fv : Few 4 v := cf.sub fun x hx => List.mem_append_right _ hx
  refine ⟨_, rfl, by decide, fun e ne => ⟨a, e, u, [], rfl, rfl, SqL.of (same_new ne _ _ hA), SqL.of upd_same, _, rfl, ?_⟩⟩
  have s1 : Same H (upd H e (.lst [])) := same_new ne
  generalize upd H e (.lst []) = H1 at s1
  refine ite_b (p := u = []) decide_eq_true_iff (fun eu => ?_) (fun eu => ?_)
  · subst eu
    exact ⟨_, rfl, b, v, rfl, s1 _ _ hB, ⟨by omega, fv⟩, fun H2 p s2 np hp => k H2 p _ (s1.trans s2) (s1.free np) hp (row_nil fw)⟩
  have hv := on_ne on eu
  obtain ⟨pp, x, bb, tt, e1, e2⟩ := halves hv
  have lpp := fh_len e1
  have ltt := lh_len e2
  refine ⟨_, rfl, b, v, pp, x, rfl, s1 _ _ hB, by unfold C1; omega, e1, fun H2 t q s2 nt nq ht hq => ?_⟩
  refine ⟨t, _, rfl, SqT.of ht, rfl, _, _, rfl, _, _, rfl, rfl, ?_⟩
  have sB := s1.trans s2
  refine ⟨_, rfl, _, rfl, a, u, rfl, sB _ _ hA, by unfold C1; omega, fu.mono (by decide), fun H3 m ys s3 nm nd hm hys => ?_⟩
  have sC := sB.trans s3
  refine ⟨m, _, rfl, .inl (SqL.of hys), rfl, flat_strs _, _, rfl, ?_⟩
  rw [inV_str]
  have hq3 : LS H3 q pp := s3 _ _ hq
  by_cases hx : x ∈ u
  · rw [decide_eq_true ((hm x).mpr hx)]
    refine iteF ?_
    refine ⟨_, rfl, b, v, tt, bb, rfl, sC _ _ hB, by unfold C1; omega, e2, fun H4 t2 q2 s4 nt2 nq2 ht2 hq2 => ?_⟩
    refine ⟨t2, _, rfl, SqT.of ht2, rfl, _, _, rfl, _, _, rfl, rfl, ?_⟩
    have sD := sC.trans s4
    have hbu : bb ∈ u := all_in on e1 hx bb ((lh_mem e2 bb).mpr (.inl rfl))
    obtain ⟨y, rest, e3, e4⟩ := last_split hbu
    have lr : rest.length < u.length := by rw [e3, List.length_append, List.length_cons]; omega
    refine ⟨_, rfl, _, rfl, a, u, y, rest, bb, rfl, sD _ _ hA, by unfold C1; omega, e3, e4, fun H5 r5 s5 n5 h5 => ?_⟩
    have sE := sD.trans s5
    have hq5 : LS H5 q2 tt := s5 _ _ hq2
    have cj : CJ rest tt := ⟨by omega, by omega, cf.sub fun z hz => by
      rcases List.mem_append.mp hz with hz | hz
      · rw [e3]; simp [hz]
      · exact List.mem_append_right _ ((lh_mem e2 z).mpr (.inr hz))⟩
    have ft : Few n tt := fw.lh e2
    refine ⟨_, rfl, _, rfl, r5, q2, rest, tt, rfl, h5, hq5, cj, fun H6 s6 => ⟨_, rfl, ?_⟩⟩
    have sF := sE.trans s6
    refine ite_b (p := On rest tt) decide_eq_true_iff (fun c1 => ?_) (fun c1 => ?_)
    · refine ⟨_, rfl, _, rfl, r5, q2, rest, tt, rfl, s6 _ _ h5, s6 _ _ hq5, cj, ft, c1, trivial, fun H7 p r s7 np hp hr7 => ?_⟩
      refine k H7 p r (sF.trans s7) (sF.free np) hp (row_last on e1 hx e2 e3 (fun z hz => (lh_mem e2 z).mpr (.inr (hr7.mem z hz))) (.inl hr7.sim) ?_)
      have := hr7.len
      omega
    · refine ⟨_, rfl, by show 1 ≤ sizeLine; decide, fun l7 n7 => ?_⟩
      have sG := sF.new (o := .lst [V.str bb]) n7
      refine ⟨_, rfl, q2, tt, rfl, same_new n7 _ _ (s6 _ _ hq5), ⟨by omega, fv.sub fun z hz => (lh_mem e2 z).mpr (.inr hz)⟩, fun H8 p8 s8 n8 h8 => ?_⟩
      refine ⟨l7, p8, _, _, rfl, rfl, s8 _ _ upd_same, h8, small_line (by have := short_le (fv.sub fun z hz => (lh_mem e2 z).mpr (.inr hz)) (by omega); rw [List.length_map]; show 1 + _ ≤ _; omega), fun p np => ?_⟩
      have sH := sG.trans s8
      refine k _ p (bb :: short tt) (sH.new np) (sH.free np) upd_same (row_last on e1 hx e2 e3 (fun z hz => ?_) (.inr ⟨short tt, rfl, Sim.short tt⟩) ?_)
      · rcases List.mem_cons.mp hz with hz | hz
        · exact (lh_mem e2 z).mpr (.inl hz)
        · exact (lh_mem e2 z).mpr (.inr ((short_mem tt z).mp hz))
      · have := short_len n tt ft
        rw [List.length_cons]
        omega
  · rw [decide_eq_false (fun z => hx ((hm x).mp z))]
    refine iteT ?_
    have fp : Few n pp := fw.fh e1
    have onp := on_ahead on e1 hx
    have mp : ∀ z ∈ pp, z ∈ v := fun z hz => (fh_mem e1 z).mpr (.inr hz)
    have mx : x ∈ v := (fh_mem e1 x).mpr (.inl rfl)
    refine ⟨_, rfl, _, rfl, a, q, u, pp, rfl, sC _ _ hA, hq3, ⟨cu, by omega, cf.sub fun z hz => ?_⟩, fp, onp, trivial, fun H4 p4 r4 s4 n4 h4 g4 => ?_⟩
    · rcases List.mem_append.mp hz with hz | hz
      · exact List.mem_append_left _ hz
      · exact List.mem_append_right _ (mp z hz)
    have sD := sC.trans s4
    refine ⟨_, rfl, by show 1 ≤ sizeLine; decide, fun l5 n5 => ?_⟩
    have sE := sD.new (o := .lst [V.str x]) n5
    have p16 := pow16 hn
    have l4 : r4.length ≤ 14 := by have := g4.len; omega
    refine ⟨p4, l5, _, _, rfl, rfl, same_new n5 _ _ h4, upd_same, small_line (by rw [List.length_map]; show _ + 1 ≤ _; omega), fun l6 n6 => ?_⟩
    have sF := sE.new (o := .lst (r4.map V.str ++ [V.str x])) n6
    have hq6 : LS (upd (upd H4 l5 (.lst [V.str x])) l6 (.lst (r4.map V.str ++ [V.str x]))) q pp := same_new n6 _ _ (same_new n5 _ _ (s4 _ _ hq3))
    have hl6 : LS (upd (upd H4 l5 (.lst [V.str x])) l6 (.lst (r4.map V.str ++ [V.str x]))) l6 (r4 ++ [x]) := by
      show upd _ _ _ _ = _
      rw [upd_same, List.map_append]
      rfl
    generalize upd (upd H4 l5 (.lst [V.str x])) l6 (.lst (r4.map V.str ++ [V.str x])) = HH at sF hq6 hl6
    refine ⟨_, rfl, _, rfl, by show 1 ≤ sizeLine; decide, fun l7 n7 => ?_⟩
    have sG := sF.new (o := .lst [V.str x]) n7
    refine ⟨q, l7, _, _, rfl, rfl, same_new n7 _ _ hq6, upd_same, small_line (by rw [List.length_map]; show _ + 1 ≤ _; omega), fun l8 n8 => ?_⟩
    have sH := sG.new (o := .lst (pp.map V.str ++ [V.str x])) n8
    have hl8 : LS (upd (upd HH l7 (.lst [V.str x])) l8 (.lst (pp.map V.str ++ [V.str x]))) l8 (pp ++ [x]) := by
      show upd _ _ _ _ = _
      rw [upd_same, List.map_append]
      rfl
    have hl6' : LS (upd (upd HH l7 (.lst [V.str x])) l8 (.lst (pp.map V.str ++ [V.str x]))) l6 (r4 ++ [x]) := same_new n8 _ _ (same_new n7 _ _ hl6)
    generalize upd (upd HH l7 (.lst [V.str x])) l8 (.lst (pp.map V.str ++ [V.str x])) = H8 at sH hl8 hl6'
    refine ⟨_, rfl, l8, b, pp ++ [x], v, rfl, hl8, sH _ _ hB, ⟨by rw [List.length_append, List.length_singleton]; omega, cv, fv.sub fun z hz => ?_⟩, fw, on_step e1, hC u v pp x hc e1 hx, fun H9 p9 r9 s9 n9 h9 g9 => ?_⟩
    · rcases List.mem_append.mp hz with hz | hz
      · rcases List.mem_append.mp hz with hz | hz
        · exact mp z hz
        · rw [List.mem_singleton.mp hz]; exact mx
      · exact hz
    have l9 : r9.length ≤ 30 := by
      have := g9.len
      have : 2 ^ (n + 1 + 1) = 2 ^ (n + 1) * 2 := Nat.pow_succ ..
      omega
    have sI := sH.trans s9
    refine ⟨l6, p9, _, _, rfl, rfl, s9 _ _ hl6', h9, small_line (by rw [List.length_map, List.length_map, List.length_append, List.length_singleton]; omega), fun p np => ?_⟩
    refine k _ p (r4 ++ [x] ++ r9) (sI.new np) (sI.free np) ?_ (row_two e1 hx g4 g9)
    show upd _ _ _ _ = _
    rw [upd_same, ← List.map_append]
theorem ok_way (T : TX K mg) : ∀ n, n ≤ 4 → Cal P w K mg base (12 + 2 * n) "way_on" ["u", "v"] (spWay n fun _ _ => True)
  | 0, _ => way_zero T
  | n + 1, h => by
    have IH := ok_way T n (by omega)
    have G3 : Cal P w K mg base (12 + 2 * n + 1) "way_on" ["u", "v"] (spWay (n + 1) third) :=
      way_body T n (12 + 2 * n) (by omega) (by omega) (S := fun _ _ => False) IH (IH.imp fun vs H Q E ⟨_, _, _, _, _, _, _, _, _, _, z, _⟩ => z.elim) fun u v p a ⟨_, q, b, e, hb⟩ e2 ha => by
        rw [e] at e2
        cases e2
        exact ha hb
    exact way_body T n (12 + 2 * n + 1) (by omega) (by omega) (S := third) (IH.mono (by omega)) G3 fun u v p a _ e ha => ⟨by simp, p, a, e, List.mem_append_right _ List.mem_cons_self⟩
def spOn : Sp := fun vs H Q _ => ∃ (a b : Addr) (u v : List Str), vs = [.ref a, .ref b] ∧ LS H a u ∧ LS H b v ∧ CJ u v ∧ On u v ∧ ∀ H' p r, Same H H' → H p = none → LS H' p r → Row 4 u v r → Q (.ref p) H'
theorem ok_on (T : TX K mg) : Cal P w K mg base 21 "on" ["u", "v"] spOn := by
  have Gc := ok_comes_on (P := P) (w := w) (base := base) T
  have Gw := ok_way (P := P) (w := w) (base := base) T 4 (by decide)
  refine mk_cal (y := "on") (st := s_on) T 25 25 rfl rfl sc_on (fun _ _ _ _ _ _ us hl => match us, hl with | [_, _], _ => rfl) (fun vs H Q E h => ?_) (fun cdv A outer s H vs Q E hr h => ?_)
  · obtain ⟨a, b, ws, us, rfl, _⟩ := h; rfl
  obtain ⟨a, b, u, v, rfl, hA, hB, c, on, k⟩ := h
  refine ⟨_, pss_cons (ps_if (pt_not (pt_val (pc Gc (hr.mono (by omega)) (pa_cons (pv 0) (pa_cons (pv 1) pa_nil))))) pss_never pss_nil)
    (pss_one (ps_ret (pc Gw hr (pa_cons (pv 0) (pa_cons (pv 1) pa_nil))))), ?_⟩
  refine ⟨_, rfl, _, rfl, a, b, u, v, rfl, hA, hB, c, fun H1 s1 => ⟨_, rfl, ?_⟩⟩
  refine iteFb (by show (!decide (On u v)) = false; rw [decide_eq_true on]; rfl) ?_
  refine ⟨_, rfl, _, rfl, a, b, u, v, rfl, s1 _ _ hA, s1 _ _ hB, c, c.2.2.sub fun x hx => List.mem_append_right _ hx, on, trivial, fun H2 p r s2 np hp g => k H2 p r (s1.trans s2) (s1.free np) hp g⟩
/-- of two speeches, not of the same words, of which one comes on of the other: the row -/
def spOpen : Sp := fun vs H Q _ => ∃ (a b : Addr) (u v : List Str), vs = [.ref a, .ref b] ∧ LS H a u ∧ LS H b v ∧ CJ u v ∧ ¬ (∀ x, x ∈ u ↔ x ∈ v) ∧ (On u v ∨ On v u) ∧ ∀ H' p r, Same H H' → H p = none → LS H' p r → (On u v → Row 4 u v r) → (¬ On u v → Row 4 v u r) → Q (.ref p) H'
theorem ok_open_row (T : TX K mg) : Cal P w K mg base 22 "open_row" ["one", "other"] spOpen := by
  have Gc := ok_comes_on (P := P) (w := w) (base := base) T
  have Go := ok_on (P := P) (w := w) (base := base) T
  have Gw := ok_words_of (P := P) (w := w) (base := base) T
  refine mk_cal (y := "open_row") (st := s_open_row) T 27 27 rfl rfl sc_open_row (fun _ _ _ _ _ _ us hl => match us, hl with | [_, _], _ => rfl) (fun vs H Q E h => ?_) (fun cdv A outer s H vs Q E hr h => ?_)
  · obtain ⟨a, b, ws, us, rfl, _⟩ := h; rfl
  obtain ⟨a, b, u, v, rfl, hA, hB, c, hne, hon, k⟩ := h
  have fu : Few 4 u := c.2.2.sub fun x hx => List.mem_append_left _ hx
  have fv : Few 4 v := c.2.2.sub fun x hx => List.mem_append_right _ hx
  have cu := c.1
  have cv := c.2.1
  refine ⟨_, pss_cons (ps_set (i := 2) sc_open_row.nd rfl (.inl rfl) (pc Gw (hr.mono (by omega)) (pa_cons (pv 0) pa_nil)))
    (pss_cons (ps_if (pt_cmpR (op_eqS hr.units0) (pv 2) (pc Gw (hr.mono (by omega)) (pa_cons (pv 1) pa_nil)) (nomark _)) pss_never pss_nil)
    (pss_one (ps_ret (pe_ifExp (pt_val (pc Gc (hr.mono (by omega)) (pa_cons (pv 0) (pa_cons (pv 1) pa_nil)))) (pc Go hr (pa_cons (pv 0) (pa_cons (pv 1) pa_nil))) (pc Go hr (pa_cons (pv 1) (pa_cons (pv 0) pa_nil))))))), ?_⟩
  refine ⟨_, rfl, a, u, rfl, hA, by unfold C1; omega, fu.mono (by decide), fun H1 p ys s1 n1 nd hm hp => ?_⟩
  refine ⟨_, rfl, _, rfl, b, v, rfl, s1 _ _ hB, by unfold C1; omega, fv.mono (by decide), fun H2 q zs s2 n2 nd2 hm2 hq => ?_⟩
  refine ⟨p, q, _, _, rfl, rfl, SqL.of (s2 _ _ hp), SqL.of hq, _, rfl, iteFb (decide_eq_false fun e => hne fun x => by rw [← hm, e, hm2]) ?_⟩
  have sB := s1.trans s2
  refine ⟨_, rfl, _, rfl, a, b, u, v, rfl, sB _ _ hA, sB _ _ hB, c, fun H3 s3 => ⟨_, rfl, ?_⟩⟩
  have sC := sB.trans s3
  refine ite_b (p := On u v) decide_eq_true_iff (fun c1 => ?_) (fun c1 => ?_)
  · exact ⟨_, rfl, _, rfl, a, b, u, v, rfl, sC _ _ hA, sC _ _ hB, c, c1, fun H4 p r s4 np hp g => k H4 p r (sC.trans s4) (sC.free np) hp (fun _ => g) fun z => absurd c1 z⟩
  · exact ⟨_, rfl, _, rfl, b, a, v, u, rfl, sC _ _ hB, sC _ _ hA, c.swap, hon.resolve_left c1, fun H4 p r s4 np hp g => k H4 p r (sC.trans s4) (sC.free np) hp (fun z => absurd z c1) fun _ => g⟩
end
end Tw
end
section
/-! text W6 -/
set_option maxHeartbeats 4000000
namespace Tw
open PySem PySem.Spec PyProof.Rows L2
theorem bo_len : bootBuiltins "len" = some (.builtin "len") := by decide +kernel
theorem bo_all : bootBuiltins "all" = some (.builtin "all") := by decide +kernel
theorem bo_isi : bootBuiltins "isinstance" = some (.builtin "isinstance") := by decide +kernel
theorem bo_str : bootBuiltins "str" = some (.type "str") := by decide +kernel
theorem bo_list : bootBuiltins "list" = some (.type "list") := by decide +kernel
theorem bo_tuple : bootBuiltins "tuple" = some (.type "tuple") := by decide +kernel
theorem bo_bool : bootBuiltins "bool" = some (.type "bool") := by decide +kernel
/-- a word: one to eight of the letters -/
def WordOk (x : Str) : Prop := 1 ≤ x.length ∧ x.length ≤ 8 ∧ ∀ c ∈ x.cps.toList, 97 ≤ c ∧ c ≤ 122
theorem letter_in {c : Nat} (h : 97 ≤ c ∧ c ≤ 122) : c ∈ ("abcdefghijklmnopqrstuvwxyz" : Str).cps.toList := by
  have key : (List.range 26).all (fun k => decide (97 + k ∈ ("abcdefghijklmnopqrstuvwxyz" : Str).cps.toList)) = true := by decide +kernel
  have := List.all_eq_true.mp key (c - 97) (List.mem_range.mpr (by omega))
  rw [show 97 + (c - 97) = c by omega] at this
  exact of_decide_eq_true this
/-- a comprehension over a text -/
theorem lc_str {x : Str} {g : TG} {tt : TT} {te : TE} {vs : List Nat} {σ : L2.St} {H1 : Hp} {D : Addr} {Qd : Hp → Prop} (Pv : Nat → Hp → Prop) (h0 : Pv 0 (upd H1 D (.lst [])))
    (hs : ∀ i c H, x.cps[i]? = some c → Pv i H → g (.str ⟨#[c]⟩) (wipe σ vs) H fun σ2 H2 => wipe σ2 vs = wipe σ vs ∧ tt σ2 H2 fun b H3 =>
      if b = true then te σ2 H3 fun y H4 => ∃ acc, H4 D = some (.lst acc) ∧ acc.length < sizeLine ∧ Pv (i + 1) (upd H4 D (.lst (acc ++ [y]))) else Pv (i + 1) H3) (hd : ∀ H, Pv x.cps.size H → Qd H) :
    ∃ W : Nat → Nat → Hp → Prop, (∃ m, W 0 m (upd H1 D (.lst []))) ∧ ∀ i m H, W i m H →
      ((Its x).stop i H ∧ Qd H) ∨ ((Its x).go i H ∧ ∃ Nx : Hp → Prop, (∀ H', Nx H' → ∃ m', m' < m ∧ W (i + 1) m' H') ∧ ∀ v H', (Its x).yld i H v H' → g v (wipe σ vs) H' fun σ2 H2 => wipe σ2 vs = wipe σ vs ∧ tt σ2 H2 fun b H3 =>
        if b = true then te σ2 H3 fun y H4 => ∃ acc, H4 D = some (.lst acc) ∧ acc.length < sizeLine ∧ Nx (upd H4 D (.lst (acc ++ [y]))) else Nx H3) := by
  refine ⟨fun i m H => m = x.cps.size - i ∧ i ≤ x.cps.size ∧ Pv i H, ⟨_, rfl, Nat.zero_le _, h0⟩, ?_⟩
  rintro i m H ⟨rfl, hi, hp⟩
  by_cases hlt : i < x.cps.size
  · refine .inr ⟨hlt, Pv (i + 1), fun H' h' => ⟨x.cps.size - (i + 1), by omega, rfl, hlt, h'⟩, ?_⟩
    rintro v H' ⟨rfl, c, hc, rfl⟩
    exact hs i c H' hc hp
  · have e : i = x.cps.size := by omega
    subst e
    exact .inl ⟨Nat.le_refl _, hd H hp⟩
theorem blk {N : List Str} {sc scope : Scope} {own : List (Str × Nat)} {X : Cx} (h : blkC N sc scope own = true) (hN : X.N = N := by rfl) (hs : X.env.scope = sc := by rfl) : BlkOk X.N X.env.scope scope own := by
  rw [hN, hs]; exact blkOk_by h
section
variable {X : Cx} {e : Expr} {ta : TE} {p pos : Pos}
theorem pgi {x : Str} {n : Int} {t : Tok} (gm : X.mg x = some (.int n t)) (hg : Gl X x := by rfl) (hd : (x == ("__debug__" : Str)) = false := by decide) : PE X (.Name x pos) (tC (.int n)) := pe_glob hg gm ⟨t, rfl⟩ hd
theorem pgs {x z : Str} {t : Tok} (gm : X.mg x = some (.str z t)) (hg : Gl X x := by rfl) (hd : (x == ("__debug__" : Str)) = false := by decide) : PE X (.Name x pos) (tC (.str z)) := pe_glob hg gm ⟨t, rfl⟩ hd
/-- len of a text -/
theorem plenS (T : TX X.K X.mg) (ha : PE X e ta) (hg : Gl X "len" := by rfl) (hs : starEach [e] X.env = (false, eval e X.env) :: starEach [] X.env := by rfl) : PE X (.Call (.Name "len" p) [e] [] pos) (tCB (fun xs H Q => ∃ z, xs = [.str z] ∧ z.length ≤ sizeLine ∧ Q (.int z.length) H) (tCons ta tNil)) :=
  pe_callB call_len_str hg (T.free 48 rfl) bo_len (pa_cons ha pa_nil hs) (he := hs)
/-- isinstance(e, T), T a built-in type -/
theorem pisi (T : TX X.K X.mg) {n : Str} {ty : String} {q : Pos} (ha : PE X e ta) (hm : X.mg n = none) (hb : bootBuiltins n = some (.type ty)) (hg : Gl X "isinstance" := by rfl) (hg2 : Gl X n := by rfl) (hn : n ≠ "__name__" := by decide) (hd : (n == ("__debug__" : Str)) = false := by decide)
    (hs : starEach [e, .Name n q] X.env = (false, eval e X.env) :: starEach [.Name n q] X.env := by rfl) (hs2 : starEach [.Name n q] X.env = (false, eval (.Name n q) X.env) :: starEach [] X.env := by rfl) (hpl : (backTo pos (starEach [.Name n q] X.env)).any (·.1) = false := by rfl) :
    PE X (.Call (.Name "isinstance" p) [e, .Name n q] [] pos) (tCB (rIsi X.K) (tCons ta (tCons (tC (.ty ty)) tNil))) :=
  pe_callB call_isi hg (T.free 49 rfl) bo_isi (pa_cons ha (pa_cons (pe_bltn hg2 hm hb (.refl _) hn hd) pa_nil hs2) hs) (he := hs) (hpl := hpl)
end
section
variable {P : Program} {w : World} {K : PySem.W.Frag} {mg : Str → Option Value} {base : Heap}
def spWord : Sp := fun vs H Q _ => ∃ x, vs = [.str x] ∧ WordOk x ∧ ∀ H', Same H H' → Q (.bl true) H'
theorem ok_is_word (T : TX K mg) : Cal P w K mg base 1 "is_word" ["thing"] spWord := by
  obtain ⟨t8, g8⟩ := T.int 65 (x := "MOST_LETTERS") (n := 8) rfl
  obtain ⟨tL, gL⟩ := T.str 71 (x := "LETTERS") (z := "abcdefghijklmnopqrstuvwxyz") rfl
  refine mk_cal (y := "is_word") (st := s_is_word) T 2 2 rfl rfl sc_is_word (fun _ _ _ _ _ _ us hl => match us, hl with | [_], _ => rfl) (fun vs H Q E h => ?_) (fun cdv A outer s H vs Q E hr h => ?_)
  · obtain ⟨x, rfl, _⟩ := h; rfl
  obtain ⟨x, rfl, ⟨x1, x2, x3⟩, k⟩ := h
  have hl : x.length ≤ sizeLine := small_line (by omega)
  refine ⟨_, pss_cons (ps_if (pw_or (pt_not (pt_val (pisi T (pv 0) (T.free 52 rfl) bo_str))) (pw_or1 (pt_not (pt_chain op_le op_le pe_int (plenS T (pv 0)) (pgi g8))))).pt pss_never pss_nil)
    (pss_one (ps_ret (pe_callB (cr_all rfl) rfl (T.free 53 rfl) bo_all (pa_cons (pe_lc (own := [("sign", 1)]) rfl sc_is_word.nd (pi_str (pv 0)) (blk (N := N_is_word) (sc := defScope s_is_word) (by decide +kernel)) (fun _ _ _ _ _ => pg_name (i := 1) sc_is_word.nd rfl (.inl rfl)) (fun _ _ _ _ _ => pts_nil)
      (fun _ _ _ _ _ => pe_cmpR op_in_sign (pv 1) (pgs gL) (by rfl))) pa_nil)))), ?_⟩
  refine ⟨_, rfl, .str x, .ty "str", .type "str", .type "str", true, rfl, .ty _, .base (.str x), kit_ty (by decide +kernel), true, rfl, iteFb rfl ?_⟩
  refine ⟨_, rfl, x, rfl, hl, 1, (x.length : Int), rfl, rfl, _, rfl, iteTb (decide_eq_true (by omega)) ?_⟩
  refine ⟨(x.length : Int), 8, rfl, rfl, _, rfl, iteFb (by rw [decide_eq_true (by omega)]; rfl) ?_⟩
  refine ⟨_, rfl, x, rfl, fun D nD => lc_str (fun i H2 => Same H H2 ∧ H2 D = some (.lst ((List.replicate i true).map V.bl)) ∧ i ≤ 8) ⟨same_new nD, upd_same, by omega⟩ ?_ ?_⟩
  · rintro i c H2 hc ⟨s2, h2, h3⟩
    refine ⟨rfl, ?_⟩
    unfold tYes
    refine iteT ?_
    have hin : c ∈ x.cps.toList := List.mem_of_getElem? (by rw [Array.getElem?_toList]; exact hc)
    have hi : i < x.length := by
      have := (Array.getElem?_eq_some_iff.mp hc).1
      exact this
    refine ⟨_, rfl, c, _, rfl, rfl, _, h2, small_line' (by rw [List.length_map, List.length_replicate]; omega), s2.put nD, ?_, by omega⟩
    rw [upd_same, decide_eq_true (letter_in (x3 c hin)), List.replicate_succ', List.map_append]
    rfl
  · rintro H2 ⟨s2, h2, _⟩
    refine ⟨D, _, rfl, SqL.of h2, ?_⟩
    have e : (List.replicate x.cps.size true).all id = true := List.all_eq_true.mpr fun b hb => by rw [List.eq_of_mem_replicate hb]; rfl
    rw [e]
    exact k _ s2
end
end Tw
end
section
/-! text W7 -/
set_option maxHeartbeats 4000000
namespace Tw
open PySem PySem.Spec PyProof.Rows L2
/-- a loop over enumerate(list) -/
theorem for_enum {K : PySem.W.Frag} {a : Addr} {xs : List V} {g : TG} {tb : TS} {D : Ends} {σ : L2.St} {H : Hp} (Pv : Nat → L2.St → Hp → Prop) (h0 : Pv 0 σ H) (hl : ∀ i σ H, Pv i σ H → SqL K H a xs)
    (hs : ∀ (i : Nat) (x : V) (T : Addr) (σ : L2.St) (H : Hp), xs[i]? = some x → Pv i σ H → H T = none → g (.ref T) σ (upd H T (.tup [.int (i : Nat), x])) fun σ2 H2 => tb { D with nx := Pv (i + 1), ct := Pv (i + 1), bk := D.nx } σ2 H2) (hd : ∀ σ H, Pv xs.length σ H → D.nx σ H) :
    ∃ W : Nat → Nat → L2.St → Hp → Prop, (∃ m, W 0 m σ H) ∧ ∀ i m σ H, W i m σ H →
      ((Ite K a).stop i H ∧ D.nx σ H) ∨ ((Ite K a).go i H ∧ ∃ N : L2.St → Hp → Prop, (∀ σ' H', N σ' H' → ∃ m', m' < m ∧ W (i + 1) m' σ' H') ∧ ∀ v H', (Ite K a).yld i H v H' → g v σ H' fun σ2 H2 => tb { D with nx := N, ct := N, bk := D.nx } σ2 H2) := by
  refine ⟨fun i m σ H => m = xs.length - i ∧ i ≤ xs.length ∧ Pv i σ H, ⟨_, rfl, Nat.zero_le _, h0⟩, ?_⟩
  rintro i m σ H ⟨rfl, hi, hp⟩
  have hL := hl i σ H hp
  by_cases hlt : i < xs.length
  · refine .inr ⟨⟨xs, xs[i], hL, List.getElem?_eq_getElem hlt⟩, Pv (i + 1), fun σ' H' h' => ⟨xs.length - (i + 1), by omega, rfl, hlt, h'⟩, ?_⟩
    rintro v H' ⟨T, x, rfl, hT, rfl, hx⟩
    exact hs i x T σ H (hx xs hL) hp hT
  · have e : i = xs.length := by omega
    subst e
    exact .inl ⟨⟨xs, hL, Nat.le_refl _⟩, hd σ H hp⟩
section
variable {P : Program} {w : World} {K : PySem.W.Frag} {mg : Str → Option Value} {base : Heap}
theorem all_true (n : Nat) : (List.replicate n true).all id = true := List.all_eq_true.mpr fun b hb => by rw [List.eq_of_mem_replicate hb]; rfl
theorem rep_snoc (n : Nat) : (List.replicate (n + 1) true).map V.bl = (List.replicate n true).map V.bl ++ [V.bl true] := by
  rw [List.replicate_succ', List.map_append]; rfl
theorem nil_of {ys : List Str} (h : ∀ x, x ∈ ys ↔ x ∈ ([] : List Str)) : ys = [] := List.eq_nil_iff_forall_not_mem.mpr fun x hx => List.not_mem_nil ((h x).mp hx)
def spAre0 : Sp := fun vs H Q _ => ∃ a, vs = [.ref a] ∧ LS H a [] ∧ ∀ H', Same H H' → Q (.bl true) H'
theorem ok_are_words (T : TX K mg) : Cal P w K mg base 2 "are_words" ["thing"] spAre0 := by
  have Gw := ok_is_word (P := P) (w := w) (base := base) T
  obtain ⟨t6, g6⟩ := T.int 66 (x := "MOST_WORDS") (n := 6) rfl
  refine mk_cal (y := "are_words") (st := s_are_words) T 3 3 rfl rfl sc_are_words (fun _ _ _ _ _ _ us hl => match us, hl with | [_], _ => rfl) (fun vs H Q E h => ?_) (fun cdv A outer s H vs Q E hr h => ?_)
  · obtain ⟨x, rfl, _⟩ := h; rfl
  obtain ⟨a, rfl, hA, k⟩ := h
  refine ⟨_, pss_cons (ps_if (pw_or (pt_not (pt_val (pisi T (pv 0) (T.free 54 rfl) bo_list))) (pw_or1 (pt_cmpR op_gt (plen T (pv 0)) (pgi g6) (nomark _)))).pt pss_never pss_nil)
    (pss_one (ps_ret (pe_and (pe_callB (cr_all rfl) rfl (T.free 53 rfl) bo_all (pa_cons (pe_lc (own := [("one", 1)]) rfl sc_are_words.nd (pi_list (pv 0)) (blk (N := N_are_words) (sc := defScope s_are_words) (by decide +kernel)) (fun _ _ _ _ _ => pg_name (i := 1) sc_are_words.nd rfl (.inl rfl)) (fun _ _ _ _ _ => pts_nil)
      (fun _ _ _ _ _ => pc Gw hr (pa_cons (pv 1) pa_nil))) pa_nil))
      (pe_one (pe_cmpR op_eq (pe_callB cr_lenS rfl (T.free 48 rfl) bo_len (pa_cons (pe_callTy (cr_setS rfl) rfl (T.free 55 rfl) bo_set (pa_cons (pv 0) pa_nil)) pa_nil)) (plen T (pv 0)) (nomark _)))))), ?_⟩
  refine ⟨_, rfl, .ref a, .ty "list", .type "list", .type "list", true, rfl, .ty _, .base (.lst hA), kit_ty (by decide +kernel), true, rfl, iteFb rfl ?_⟩
  refine ⟨_, rfl, a, _, rfl, .inl (SqL.of hA), (0 : Int), 6, rfl, rfl, _, rfl, iteFb rfl ?_⟩
  refine ⟨_, rfl, a, rfl, ⟨_, SqL.of hA⟩, fun D nD => lc_list (K := K) (a := a) (xs := []) (fun i H2 => Same H H2 ∧ H2 D = some (.lst [])) ⟨same_new nD, upd_same⟩ (fun i H2 _ h2 => SqL.of (h2.1 _ _ hA)) (fun i x H2 hx _ => by cases hx) ?_⟩
  rintro H2 ⟨s2, h2⟩
  refine ⟨D, [], rfl, SqL.of h2, _, rfl, iteTb rfl ?_⟩
  refine ⟨_, rfl, a, [], rfl, SqL.of (s2 _ _ hA), by decide, fun p np => ?_⟩
  refine ⟨p, [], rfl, upd_same, by decide, fun n ys nd hm hn => ?_⟩
  have e := nil_of hm
  subst e
  subst hn
  have s3 := s2.new (o := SetTx w p []) np
  exact ⟨_, rfl, a, [], rfl, .inl (SqL.of (s3 _ _ hA)), rfl, k _ s3⟩
/-- a speech: at most three hundred good words, of six kinds at most -/
def SpOk (ws : List Str) : Prop := ws.length ≤ 300 ∧ (∀ x ∈ ws, WordOk x) ∧ Few 6 ws
def spIsS : Sp := fun vs H Q _ => ∃ a ws, vs = [.ref a] ∧ LS H a ws ∧ SpOk ws ∧ ∀ H', Same H H' → Q (.bl true) H'
theorem ok_is_speech (T : TX K mg) : Cal P w K mg base 2 "is_speech" ["thing"] spIsS := by
  have Gw := ok_is_word (P := P) (w := w) (base := base) T
  obtain ⟨t6, g6⟩ := T.int 66 (x := "MOST_WORDS") (n := 6) rfl
  obtain ⟨t3, g3⟩ := T.int 67 (x := "MOST_SAID") (n := 300) rfl
  refine mk_cal (y := "is_speech") (st := s_is_speech) T 4 4 rfl rfl sc_is_speech (fun _ _ _ _ _ _ us hl => match us, hl with | [_], _ => rfl) (fun vs H Q E h => ?_) (fun cdv A outer s H vs Q E hr h => ?_)
  · obtain ⟨x, ws, rfl, _⟩ := h; rfl
  obtain ⟨a, ws, rfl, hA, ⟨c1, c2, ⟨W, w1, w2⟩⟩, k⟩ := h
  refine ⟨_, pss_cons (ps_if (pw_or (pt_not (pt_val (pisi T (pv 0) (T.free 54 rfl) bo_list))) (pw_or1 (pt_cmpR op_gt (plen T (pv 0)) (pgi g3) (nomark _)))).pt pss_never pss_nil)
    (pss_one (ps_ret (pe_and (pe_callB (cr_all rfl) rfl (T.free 53 rfl) bo_all (pa_cons (pe_lc (own := [("one", 1)]) rfl sc_is_speech.nd (pi_list (pv 0)) (blk (N := N_is_speech) (sc := defScope s_is_speech) (by decide +kernel)) (fun _ _ _ _ _ => pg_name (i := 1) sc_is_speech.nd rfl (.inl rfl)) (fun _ _ _ _ _ => pts_nil)
      (fun _ _ _ _ _ => pc Gw hr (pa_cons (pv 1) pa_nil))) pa_nil))
      (pe_one (pe_cmpR op_le (pe_callB cr_lenS rfl (T.free 48 rfl) bo_len (pa_cons (pe_callTy (cr_setS rfl) rfl (T.free 55 rfl) bo_set (pa_cons (pv 0) pa_nil)) pa_nil)) (pgi g6) (nomark _)))))), ?_⟩
  refine ⟨_, rfl, .ref a, .ty "list", .type "list", .type "list", true, rfl, .ty _, .base (.lst hA), kit_ty (by decide +kernel), true, rfl, iteFb rfl ?_⟩
  refine ⟨_, rfl, a, _, rfl, .inl (SqL.of hA), _, 300, rfl, rfl, _, rfl, iteFb (decide_eq_false (by rw [List.length_map]; omega)) ?_⟩
  refine ⟨_, rfl, a, rfl, ⟨_, SqL.of hA⟩, fun D nD => lc_list (K := K) (a := a) (xs := ws.map V.str) (fun i H2 => Same H H2 ∧ H2 D = some (.lst ((List.replicate i true).map V.bl)) ∧ i ≤ 300) ⟨same_new nD, upd_same, by omega⟩ (fun i H2 _ h2 => SqL.of (h2.1 _ _ hA)) ?_ ?_⟩
  · rintro i v H2 hx ⟨s2, h2, h3⟩
    obtain ⟨x, hx2, rfl⟩ := map_at hx
    have hi := (List.getElem?_eq_some_iff.mp hx2).1
    refine ⟨rfl, ?_⟩
    unfold tYes
    refine iteT ?_
    refine ⟨_, rfl, x, rfl, c2 x (List.mem_of_getElem? hx2), fun H3 s3 => ?_⟩
    refine ⟨_, s3 _ _ h2, small_line' (by rw [List.length_map, List.length_replicate]; omega), (s2.trans s3).put nD, ?_, by omega⟩
    rw [upd_same, rep_snoc]
  rintro H2 ⟨s2, h2, _⟩
  refine ⟨D, _, rfl, SqL.of h2, _, rfl, iteTb (all_true _) ?_⟩
  refine ⟨_, rfl, a, ws, rfl, SqL.of (s2 _ _ hA), by omega, fun p np => ?_⟩
  refine ⟨p, ws, rfl, upd_same, by omega, fun n ys nd hm hn => ?_⟩
  have hle : ys.length ≤ W.length := nodup_len ys W nd fun x hx => w2 x ((hm x).mp hx)
  have s3 := s2.new (o := SetTx w p ws) np
  have k3 : Q (.bl true) (upd H2 p (SetTx w p ws)) := k _ s3
  refine ⟨(n : Int), 6, rfl, rfl, ?_⟩
  show Q (.bl (decide ((n : Int) ≤ 6))) _
  rw [decide_eq_true (by omega)]
  exact k3
/-- truths that are all true -/
def spNeed : Sp := fun vs H Q _ => ∃ a n, vs = [.ref a] ∧ H a = some (.lst ((List.replicate n true).map V.bl)) ∧ ∀ H', Same H H' → Q .non H'
theorem ok_need (T : TX K mg) : Cal P w K mg base 1 "need" ["truths"] spNeed := by
  refine mk_cal (y := "need") (st := s_need) T 30 30 rfl rfl sc_need (fun _ _ _ _ _ _ us hl => match us, hl with | [_], _ => rfl) (fun vs H Q E h => ?_) (fun cdv A outer s H vs Q E hr h => ?_)
  · obtain ⟨x, n, rfl, _⟩ := h; rfl
  obtain ⟨a, n, rfl, hA, k⟩ := h
  refine ⟨_, pss_one (ps_for PassesOwn.never rfl (pi_enum rfl (T.free 62 rfl) (pa_cons (pv 0) pa_nil)) (pg_tup rfl (pgs_cons (pg_name (i := 1) sc_need.nd rfl (.inl rfl)) (pgs_cons (pg_name (i := 2) sc_need.nd rfl (.inl rfl)) pgs_nil)))
    (pss_one (ps_if (pt_not (pt_val (pv 2))) pss_never pss_nil))), ?_⟩
  refine ⟨_, rfl, a, _, rfl, SqL.of hA, for_enum (K := K) (a := a) (xs := (List.replicate n true).map V.bl) (fun i σ H2 => (∃ u v, σ = [some (.ref a), u, v]) ∧ Same H H2) ⟨⟨none, none, rfl⟩, .refl _⟩ (fun i σ H2 h2 => SqL.of (h2.2 _ _ hA)) ?_ ?_⟩
  · rintro i x T' σ H2 hx ⟨⟨u, v, rfl⟩, s2⟩ nT
    obtain ⟨b, hb, rfl⟩ := map_at hx
    have eb : b = true := List.eq_of_mem_replicate (List.mem_of_getElem? hb)
    subst eb
    refine ⟨T', _, rfl, SqT.of upd_same, rfl, _, _, rfl, _, _, rfl, rfl, ?_⟩
    exact ⟨_, rfl, _, rfl, iteFb rfl ⟨⟨_, _, rfl⟩, s2.new nT⟩⟩
  · rintro σ H2 ⟨_, s2⟩
    exact k H2 s2
def spRoom : Sp := fun vs H Q _ => ∃ a b ws us, vs = [.ref a, .ref b] ∧ LS H a ws ∧ LS H b us ∧ Few 4 (ws ++ us) ∧ ws.length + us.length ≤ 300 ∧ ∀ H', Same H H' → Q .non H'
theorem ok_need_room (T : TX K mg) : Cal P w K mg base 1 "need_room" ["said", "more"] spRoom := by
  obtain ⟨t6, g6⟩ := T.int 66 (x := "MOST_WORDS") (n := 6) rfl
  obtain ⟨t3, g3⟩ := T.int 67 (x := "MOST_SAID") (n := 300) rfl
  refine mk_cal (y := "need_room") (st := s_need_room) T 31 31 rfl rfl sc_need_room (fun _ _ _ _ _ _ us hl => match us, hl with | [_, _], _ => rfl) (fun vs H Q E h => ?_) (fun cdv A outer s H vs Q E hr h => ?_)
  · obtain ⟨x, y, ws, us, rfl, _⟩ := h; rfl
  obtain ⟨a, b, ws, us, rfl, hA, hB, ⟨W, w1, w2⟩, hl, k⟩ := h
  refine ⟨_, pss_cons (ps_if (pt_cmpR op_gt (pe_callB cr_lenS rfl (T.free 48 rfl) bo_len (pa_cons (pe_op op_orS (pe_callTy (cr_setS rfl) rfl (T.free 55 rfl) bo_set (pa_cons (pv 0) pa_nil)) (pe_callTy (cr_setS rfl) rfl (T.free 55 rfl) bo_set (pa_cons (pv 1) pa_nil))) pa_nil)) (pgi g6) (nomark _)) pss_never pss_nil)
    (pss_one (ps_if (pt_cmpR op_gt (pe_op op_add (plen T (pv 0)) (plen T (pv 1))) (pgi g3) (nomark _)) pss_never pss_nil)), ?_⟩
  refine ⟨_, rfl, a, ws, rfl, SqL.of hA, by omega, fun p np => ?_⟩
  have s1 := same_new (o := SetTx w p ws) np
  refine ⟨_, rfl, b, us, rfl, SqL.of (s1 _ _ hB), by omega, fun q nq => ?_⟩
  have s2 := s1.new (o := SetTx w q us) nq
  have hp : upd (upd H p (SetTx w p ws)) q (SetTx w q us) p = some (SetTx w p ws) := same_new nq _ _ upd_same
  have hpq : p ≠ q := fun e => by subst e; rw [upd_same] at nq; cases nq
  refine ⟨p, q, ws, us, rfl, rfl, hpq, hp, upd_same, ⟨W, w1, fun x hx => w2 x (List.mem_append_left _ hx)⟩, ⟨W, w1, fun x hx => w2 x (List.mem_append_right _ hx)⟩, by omega, fun r nr => ?_⟩
  have s3 := s2.new (o := SetTx w r (ws ++ us)) nr
  refine ⟨r, ws ++ us, rfl, upd_same, by rw [List.length_append]; omega, fun n ys nd hm hn => ?_⟩
  have hle : ys.length ≤ W.length := nodup_len ys W nd fun x hx => w2 x ((hm x).mp hx)
  refine ⟨(n : Int), 6, rfl, rfl, _, rfl, iteFb (decide_eq_false (by omega)) ?_⟩
  refine ⟨_, rfl, a, _, rfl, .inl (SqL.of (s3 _ _ hA)), _, rfl, b, _, rfl, .inl (SqL.of (s3 _ _ hB)), _, _, rfl, rfl, _, 300, rfl, rfl, _, rfl, iteFb (decide_eq_false (by rw [List.length_map, List.length_map]; omega)) ?_⟩
  exact k _ s3
/-- nothing is left out -/
def spWithout : Sp := fun vs H Q _ => ∃ a t ws, vs = [.ref a, .ref t] ∧ LS H a ws ∧ H t = some (.tup []) ∧ ws.length ≤ 1000 ∧ ∀ H' p, Same H H' → H p = none → LS H' p ws → Q (.ref p) H'
theorem ok_without (T : TX K mg) : Cal P w K mg base 1 "without" ["speech", "words"] spWithout := by
  refine mk_cal (y := "without") (st := s_without) T 8 8 rfl rfl sc_without (fun _ _ _ _ _ _ us hl => match us, hl with | [_, _], _ => rfl) (fun vs H Q E h => ?_) (fun cdv A outer s H vs Q E hr h => ?_)
  · obtain ⟨x, y, ws, rfl, _⟩ := h; rfl
  obtain ⟨a, t, ws, rfl, hA, hT, hn, k⟩ := h
  refine ⟨_, pss_one (ps_ret (pe_lc (own := [("word", 2)]) rfl sc_without.nd (pi_list (pv 0)) (blk (N := N_without) (sc := defScope s_without) (by decide +kernel)) (fun _ _ _ _ _ => pg_name (i := 2) sc_without.nd rfl (.inl rfl)) (fun _ _ _ _ _ => pts_one (pt_cmpR (r := rIn K true) op_notIn_seq (pv 2) (pv 1) (by rfl)))
      (fun _ _ _ _ _ => pv 2))), ?_⟩
  refine ⟨_, rfl, a, rfl, ⟨_, SqL.of hA⟩, fun D nD => lc_list (K := K) (a := a) (xs := ws.map V.str) (fun i H2 => Same H H2 ∧ LS H2 D (ws.take i)) ⟨same_new nD, upd_same⟩ (fun i H2 _ h2 => SqL.of (h2.1 _ _ hA)) ?_ ?_⟩
  · rintro i v H2 hx ⟨s2, h2⟩
    obtain ⟨x, hx2, rfl⟩ := map_at hx
    refine ⟨rfl, ?_⟩
    refine ⟨_, rfl, _, rfl, t, [], rfl, .inr (SqT.of (s2 _ _ hT)), rfl, rfl, _, rfl, iteT ?_⟩
    refine ⟨_, rfl, _, h2, small_line' (by rw [List.length_map, List.length_take]; omega), s2.put nD, ?_⟩
    show upd _ _ _ _ = _
    rw [upd_same, take_succ hx2, List.map_append]
    rfl
  · rintro H2 ⟨s2, h2⟩
    rw [List.length_map, List.take_length] at h2
    exact k H2 D s2 nD h2
end
end Tw
end
section
/-! text W8 -/
set_option maxHeartbeats 4000000
namespace Tw
open PySem PySem.Spec PyProof.Rows L2
section
variable {X : Cx}
/-- a list that isn't empty and an empty one -/
def rEqE (K : PySem.W.Frag) : R2 := fun x y H Q => ∃ (a b : Addr) (xs : List V), x = .ref a ∧ y = .ref b ∧ SqL K H a xs ∧ SqL K H b [] ∧ xs ≠ [] ∧ Q (.bl false) H
theorem op_eqE (hu : X.A.units < cLine) : OpR X (compareOp .Eq) (rEqE X.K) := by
  intro pins s σ H x y v u Q I rx ry h
  obtain ⟨a, b, ws, rfl, rfl, ha, hb, hne, q⟩ := h
  cases rx; cases ry
  obtain ⟨xs, r1, ⟨o1, n1, o1h, o1c, _, o1d⟩, _⟩ := I.list ha
  obtain ⟨ys, r2, ⟨o2, n2, o2h, o2c, _, o2d⟩, _⟩ := I.list hb
  have l1 : s.heap.IsList a xs.toArray := ⟨o1, o1h, o1c, n1, o1d⟩
  have l2 : s.heap.IsList b ys.toArray := ⟨o2, o2h, o2c, n2, o2d⟩
  have e1 := r1.length
  have e2 := r2.length
  have : xs.length ≠ ys.length := by
    have : ws.length ≠ 0 := fun z => hne (List.length_eq_zero_iff.mp z)
    rw [List.length_nil] at e2
    omega
  exact SeqAt.RcAt.lists_lengths l1 l2 (by simpa using this) hu X.prog X.w _ _ ⟨.bl _, H, I, rfl, q⟩
end
/-- len of a list or tuple, read the same in every block -/
def rLenQ (K : PySem.W.Frag) : List V → Hp → VK → Prop := fun xs H Q => ∃ p ys, xs = [.ref p] ∧ (SqL K H p ys ∨ SqT K H p ys) ∧ Q (.int ys.length) H
theorem plenB {X : Cx} {K : PySem.W.Frag} {mg : Str → Option Value} {e : Expr} {ta : TE} {p pos : Pos} (T : TX K mg) (ha : PE X e ta) (hK : X.K = K := by rfl) (hM : X.mg = mg := by rfl) (hg : Gl X "len" := by rfl) (hs : starEach [e] X.env = (false, eval e X.env) :: starEach [] X.env := by rfl) :
    PE X (.Call (.Name "len" p) [e] [] pos) (tCB (rLenQ K) (tCons ta tNil)) := by
  subst hK; subst hM
  exact plen T ha hg hs
section
variable {P : Program} {w : World} {K : PySem.W.Frag} {mg : Str → Option Value} {base : Heap}
def spInt : Sp := fun vs H Q _ => ∃ i : Int, vs = [.int i] ∧ 0 ≤ i ∧ ∀ H', Same H H' → Q (.bl true) H'
theorem ok_is_whole (T : TX K mg) : Cal P w K mg base 1 "is_whole" ["thing"] spInt := by
  refine mk_cal (y := "is_whole") (st := s_is_whole) T 0 0 rfl rfl sc_is_whole (fun _ _ _ _ _ _ us hl => match us, hl with | [_], _ => rfl) (fun vs H Q E h => ?_) (fun cdv A outer s H vs Q E hr h => ?_)
  · obtain ⟨i, rfl, _⟩ := h; rfl
  obtain ⟨i, rfl, _, k⟩ := h
  refine ⟨_, pss_one (ps_ret (pe_and (pisi T (pv 0) (T.free 50 rfl) bo_int) (pe_one (pe_not (pisi T (pv 0) (T.free 51 rfl) bo_bool))))), ?_⟩
  refine ⟨_, rfl, .int i, .ty "int", .type "int", .type "int", true, rfl, .ty _, .base (.int i), kit_ty (by decide +kernel), true, rfl, iteTb rfl ?_⟩
  exact ⟨_, rfl, .int i, .ty "bool", .type "int", .type "bool", false, rfl, .ty _, .base (.int i), kit_ty (by decide +kernel), false, rfl, k _ (.refl _)⟩
theorem ok_is_number (T : TX K mg) : Cal P w K mg base 2 "is_number" ["thing"] spInt := by
  have G := ok_is_whole (P := P) (w := w) (base := base) T
  refine mk_cal (y := "is_number") (st := s_is_number) T 1 1 rfl rfl sc_is_number (fun _ _ _ _ _ _ us hl => match us, hl with | [_], _ => rfl) (fun vs H Q E h => ?_) (fun cdv A outer s H vs Q E hr h => ?_)
  · obtain ⟨i, rfl, _⟩ := h; rfl
  obtain ⟨i, rfl, h0, k⟩ := h
  refine ⟨_, pss_one (ps_ret (pe_and (pc G hr (pa_cons (pv 0) pa_nil)) (pe_one (pe_cmpR op_ge (pv 0) pe_int (nomark _))))), ?_⟩
  refine ⟨_, rfl, i, rfl, h0, fun H1 s1 => ⟨_, rfl, iteTb rfl ⟨_, rfl, i, 0, rfl, rfl, ?_⟩⟩⟩
  show Q (.bl (decide ((0 : Int) ≤ i))) H1
  rw [decide_eq_true h0]
  exact k _ s1
/-- a row of rooms: at t a word and a list of so many rooms -/
def RowT (H : Hp) (t : Addr) (x : Str) (n : Nat) : Prop := ∃ (l : Addr) (rs : List Int), H t = some (.tup [.str x, .ref l]) ∧ H l = some (.lst (rs.map V.int)) ∧ rs.length = n ∧ ∀ r ∈ rs, 0 ≤ r ∧ r < (n : Int)
theorem RowT.mono {H H' : Hp} {t : Addr} {x : Str} {n : Nat} (r : RowT H t x n) (s : Same H H') : RowT H' t x n :=
  let ⟨l, rs, a, b, c⟩ := r
  ⟨l, rs, s _ _ a, s _ _ b, c⟩
theorem flat_ints (ws : List Int) : (ws.map V.int).all flatV = true := by
  rw [List.all_map]; exact List.all_eq_true.mpr fun _ _ => rfl
def spRow : Sp := fun vs H Q _ => ∃ t x n, vs = [.ref t] ∧ RowT H t x n ∧ 1 ≤ n ∧ n ≤ 12 ∧ WordOk x ∧ ∀ H', Same H H' → Q (.bl true) H'
theorem ok_is_row (T : TX K mg) : Cal P w K mg base 3 "is_row" ["thing"] spRow := by
  have Gw := ok_is_word (P := P) (w := w) (base := base) T
  have Gn := ok_is_number (P := P) (w := w) (base := base) T
  obtain ⟨t12, g12⟩ := T.int 68 (x := "MOST_ROOMS") (n := 12) rfl
  refine mk_cal (y := "is_row") (st := s_is_row) T 11 11 rfl rfl sc_is_row (fun _ _ _ _ _ _ us hl => match us, hl with | [_], _ => rfl) (fun vs H Q E h => ?_) (fun cdv A outer s H vs Q E hr h => ?_)
  · obtain ⟨t, x, n, rfl, _⟩ := h; rfl
  obtain ⟨t, x, n, rfl, ⟨l, rs, hT, hL, e, hrs⟩, n1, n2, hx, k⟩ := h
  refine ⟨_, pss_cons (ps_if (pw_or (pt_not (pt_val (pisi T (pv 0) (T.free 63 rfl) bo_tuple))) (pw_or (pt_cmpR op_ne (plen T (pv 0)) pe_int (nomark _)) (pw_or1 (pt_not (pt_val (pc Gw (hr.mono (by omega)) (pa_cons (pe_ix ix_tup (pv 0) pe_int (fun _ _ => rfl)) pa_nil))))))).pt pss_never pss_nil)
    (pss_cons (ps_set (i := 1) sc_is_row.nd rfl (.inr rfl) (pe_ix ix_tup (pv 0) pe_int (fun _ _ => rfl)))
    (pss_cons (ps_if (pw_or (pt_not (pt_val (pisi T (pv 1) (T.free 54 rfl) bo_list))) (pw_or1 (pt_not (pt_chain op_le op_le pe_int (plen T (pv 1)) (pgi g12))))).pt pss_never pss_nil)
    (pss_one (ps_ret (pe_callB (cr_all rfl) rfl (T.free 53 rfl) bo_all (pa_cons (pe_lc (own := [("room", 2)]) rfl sc_is_row.nd (pi_list (pv 1)) (blk (N := N_is_row) (sc := defScope s_is_row) (by decide +kernel)) (fun _ _ _ _ _ => pg_name (i := 2) sc_is_row.nd rfl (.inl rfl)) (fun _ _ _ _ _ => pts_nil)
      (fun _ _ _ _ _ => pe_and (pc Gn hr (pa_cons (pv 2) pa_nil)) (pe_one (pe_cmpR op_lt (pv 2) (plenB (K := K) (mg := mg) T (pv 1)) (nomark _))))) pa_nil)))))), ?_⟩
  refine ⟨_, rfl, .ref t, .ty "tuple", .type "tuple", .type "tuple", true, rfl, .ty _, .base (.tup hT), kit_ty (by decide +kernel), true, rfl, iteFb rfl ?_⟩
  refine ⟨_, rfl, t, _, rfl, .inr (SqT.of hT), rfl, _, rfl, iteFb rfl ?_⟩
  refine ⟨_, rfl, t, _, 0, _, rfl, rfl, SqT.of hT, rfl, x, rfl, hx, fun H1 s1 => ⟨_, rfl, iteFb rfl ?_⟩⟩
  refine ⟨_, rfl, t, _, 1, _, rfl, rfl, SqT.of (s1 _ _ hT), rfl, ?_⟩
  have hL1 := s1 _ _ hL
  have hlen : (rs.map V.int).length = n := by rw [List.length_map, e]
  refine ⟨_, rfl, .ref l, .ty "list", .type "list", .type "list", true, rfl, .ty _, .base (.lst hL1), kit_ty (by decide +kernel), true, rfl, iteFb rfl ?_⟩
  refine ⟨_, rfl, l, _, rfl, .inl (SqL.of hL1), 1, _, rfl, rfl, _, rfl, iteTb (decide_eq_true (by omega)) ?_⟩
  refine ⟨_, 12, rfl, rfl, _, rfl, iteFb (by rw [decide_eq_true (by omega)]; rfl) ?_⟩
  refine ⟨_, rfl, l, rfl, ⟨_, SqL.of hL1⟩, fun D nD => lc_list (K := K) (a := l) (xs := rs.map V.int) (fun i H2 => Same H1 H2 ∧ H2 D = some (.lst ((List.replicate i true).map V.bl)) ∧ i ≤ 12) ⟨same_new nD, upd_same, by omega⟩ (fun i H2 _ h2 => SqL.of (h2.1 _ _ hL1)) ?_ ?_⟩
  · rintro i v H2 hv ⟨s2, h2, h3⟩
    obtain ⟨r, hr2, rfl⟩ := map_at hv
    have hi := (List.getElem?_eq_some_iff.mp hr2).1
    have hb := hrs r (List.mem_of_getElem? hr2)
    refine ⟨rfl, ?_⟩
    unfold tYes
    refine iteT ?_
    refine ⟨_, rfl, r, rfl, hb.1, fun H3 s3 => ⟨_, rfl, iteTb rfl ?_⟩⟩
    refine ⟨_, rfl, _, rfl, l, _, rfl, .inl (SqL.of (s3 _ _ (s2 _ _ hL1))), _, _, rfl, rfl, ?_⟩
    refine ⟨_, s3 _ _ h2, small_line' (by rw [List.length_map, List.length_replicate]; omega), (s2.trans s3).put nD, ?_, by omega⟩
    rw [upd_same, rep_snoc]
    show some (HO.lst (_ ++ [V.bl (decide (r < ((rs.map V.int).length : Int)))])) = _
    rw [decide_eq_true (by rw [hlen]; exact hb.2)]
  · rintro H2 ⟨s2, h2, _⟩
    refine ⟨D, _, rfl, SqL.of h2, ?_⟩
    rw [all_true]
    exact k _ (s1.trans s2)
/-- the rows of a house -/
structure RowsAt (H : Hp) (ts : List Addr) (ws : List Str) (n : Nat) : Prop where
  len : ts.length = ws.length
  row : ∀ (i : Nat) (t : Addr) (x : Str), ts[i]? = some t → ws[i]? = some x → RowT H t x n
theorem RowsAt.mono {H H' : Hp} {ts : List Addr} {ws : List Str} {n : Nat} (r : RowsAt H ts ws n) (s : Same H H') : RowsAt H' ts ws n := ⟨r.len, fun i t x a b => (r.row i t x a b).mono s⟩
/-- what a house asks of its rows -/
def HouseOk (ws : List Str) (n : Nat) : Prop := ws.Nodup ∧ 1 ≤ ws.length ∧ ws.length ≤ 6 ∧ 1 ≤ n ∧ n ≤ 12 ∧ ∀ x ∈ ws, WordOk x
def spRows : Sp := fun vs H Q _ => ∃ a ts ws n, vs = [.ref a] ∧ H a = some (.lst (ts.map V.ref)) ∧ RowsAt H ts ws n ∧ HouseOk ws n ∧ ∀ H', Same H H' → Q .non H'
theorem ok_need_rows (T : TX K mg) : Cal P w K mg base 4 "need_rows" ["rows"] spRows := by
  have Gr := ok_is_row (P := P) (w := w) (base := base) T
  obtain ⟨t6, g6⟩ := T.int 66 (x := "MOST_WORDS") (n := 6) rfl
  refine mk_cal (y := "need_rows") (st := s_need_rows) T 12 12 rfl rfl sc_need_rows (fun _ _ _ _ _ _ us hl => match us, hl with | [_], _ => rfl) (fun vs H Q E h => ?_) (fun cdv A outer s H vs Q E hr h => ?_)
  · obtain ⟨t, x, ws, n, rfl, _⟩ := h; rfl
  obtain ⟨a, ts, ws, n, rfl, hA, R, ⟨nd, n1, n2, n3, n4, wok⟩, k⟩ := h
  refine ⟨_, pss_cons (ps_if (pw_or (pt_not (pt_val (pisi T (pv 0) (T.free 54 rfl) bo_list))) (pw_or1 (pt_cmpR (op_eqE hr.units0) (pv 0) (pe_lst pa_nil) (nomark _)))).pt pss_never pss_nil)
    (pss_cons (ps_set (i := 1) sc_need_rows.nd rfl (.inl rfl) (pe_lst pa_nil))
    (pss_one (ps_for PassesOwn.never rfl (pi_enum rfl (T.free 62 rfl) (pa_cons (pv 0) pa_nil)) (pg_tup rfl (pgs_cons (pg_name (i := 2) sc_need_rows.nd rfl (.inl rfl)) (pgs_cons (pg_name (i := 3) sc_need_rows.nd rfl (.inl rfl)) pgs_nil)))
      (pss_cons (ps_if (pw_or (pt_cmpR op_ge (pv 2) (pgi g6) (nomark _)) (pw_or (pt_not (pt_val (pc Gr hr (pa_cons (pv 3) pa_nil)))) (pw_or (pt_cmpR op_in_seq (pe_ix ix_tup (pv 3) pe_int (fun _ _ => rfl)) (pv 1) (by rfl))
          (pw_or1 (pt_cmpR op_ne (plen T (pe_ix ix_tup (pv 3) pe_int (fun _ _ => rfl))) (plen T (pe_ix ix_tup (pe_ix ix_list (pv 0) pe_int (fun _ _ => rfl)) pe_int (fun _ _ => rfl))) (nomark _)))))).pt pss_never pss_nil)
        (pss_one (ps_expr (pe_bm PySem.F.plainAttrs_list PySem.F.slot_list_append PySem.F.type_list_append mt_append (pv 1) (pa_cons (pe_ix ix_tup (pv 3) pe_int (fun _ _ => rfl)) pa_nil)))))))), ?_⟩
  refine ⟨_, rfl, .ref a, .ty "list", .type "list", .type "list", true, rfl, .ty _, .base (.lst hA), kit_ty (by decide +kernel), true, rfl, iteFb rfl ?_⟩
  have hlen : ts.length = ws.length := R.len
  obtain ⟨x0, hx0⟩ : ∃ x0, ws[0]? = some x0 := ⟨ws[0], List.getElem?_eq_getElem (by omega)⟩
  obtain ⟨t0, ht0⟩ : ∃ t0, ts[0]? = some t0 := ⟨ts[0], List.getElem?_eq_getElem (by omega)⟩
  obtain ⟨l0, rs0, hT0, hL0, e0, _⟩ := R.row 0 t0 x0 ht0 hx0
  refine ⟨_, rfl, by decide, fun e ne => ⟨a, e, _, rfl, rfl, SqL.of (same_new ne _ _ hA), SqL.of upd_same, fun z => ?_, _, rfl, iteFb rfl ?_⟩⟩
  · have := congrArg List.length z
    rw [List.length_map, List.length_nil] at this
    omega
  have s1 : Same H (upd H e (.lst [])) := same_new ne
  generalize upd H e (.lst []) = H1 at s1
  refine ⟨by decide, fun f nf => ?_⟩
  have nfH : H f = none := s1.free nf
  refine ⟨_, rfl, a, _, rfl, SqL.of ((s1.new nf) _ _ hA), for_enum (K := K) (a := a) (xs := ts.map V.ref) (fun i σ H2 => (∃ u v, σ = [some (.ref a), some (.ref f), u, v]) ∧ Same H H2 ∧ LS H2 f (ws.take i)) ⟨⟨none, none, rfl⟩, s1.new nf, upd_same⟩ (fun i σ H2 h2 => SqL.of (h2.2.1 _ _ hA)) ?_ ?_⟩
  · rintro i v T' σ H2 hv ⟨⟨u, v2, rfl⟩, s2, hf⟩ nT
    obtain ⟨t, ht, rfl⟩ := map_at hv
    have hi := (List.getElem?_eq_some_iff.mp ht).1
    obtain ⟨x, hx⟩ : ∃ x, ws[i]? = some x := ⟨ws[i], List.getElem?_eq_getElem (by omega)⟩
    obtain ⟨l, rs, hT, hL, e1, hrs⟩ := R.row i t x ht hx
    refine ⟨T', _, rfl, SqT.of upd_same, rfl, _, _, rfl, _, _, rfl, rfl, ?_⟩
    have s3 : Same H (upd H2 T' (.tup [.int (i : Nat), .ref t])) := s2.new nT
    have hf3 : LS (upd H2 T' (.tup [.int (i : Nat), .ref t])) f (ws.take i) := same_new nT _ _ hf
    generalize upd H2 T' (.tup [.int (i : Nat), .ref t]) = H3 at s3 hf3
    refine ⟨_, rfl, (i : Int), 6, rfl, rfl, _, rfl, iteFb (decide_eq_false (by omega)) ?_⟩
    refine ⟨_, rfl, t, x, n, rfl, ⟨l, rs, s3 _ _ hT, s3 _ _ hL, e1, hrs⟩, n3, n4, wok x (List.mem_of_getElem? hx), fun H4 s4 => ⟨_, rfl, iteFb rfl ?_⟩⟩
    have s5 := s3.trans s4
    have hf4 : LS H4 f (ws.take i) := s4 _ _ hf3
    refine ⟨_, rfl, t, _, 0, _, rfl, rfl, SqT.of (s5 _ _ hT), rfl, _, rfl, f, _, rfl, .inl (SqL.of hf4), rfl, flat_strs _, _, rfl, ?_⟩
    have hnot : x ∉ ws.take i := fun z => by
      obtain ⟨j, hj, e⟩ := List.mem_take_iff_getElem.mp z
      have h1 := (List.getElem?_eq_some_iff.mp hx)
      obtain ⟨hh, e2⟩ := h1
      have := (List.getElem_inj nd).mp (e.trans e2.symm)
      omega
    rw [inV_str]
    refine iteFb (decide_eq_false hnot) ?_
    refine ⟨_, rfl, t, _, 1, _, rfl, rfl, SqT.of (s5 _ _ hT), rfl, l, _, rfl, .inl (SqL.of (s5 _ _ hL)), ?_⟩
    refine ⟨_, rfl, a, _, 0, _, rfl, rfl, SqL.of (s5 _ _ hA), atI_nat (j := 0) (at_map ht0), t0, _, 1, _, rfl, rfl, SqT.of (s5 _ _ hT0), rfl, l0, _, rfl, .inl (SqL.of (s5 _ _ hL0)), ?_⟩
    refine ⟨rfl, _, rfl, iteFb ?_ ?_⟩
    · rw [List.length_map, List.length_map, e0, e1]
      simp
    refine ⟨_, rfl, .inl ⟨rfl, _, SqL.of hf4⟩, _, rfl, t, _, 0, _, rfl, rfl, SqT.of (s5 _ _ hT), rfl, f, _, _, rfl, rfl, hf4, small_line' (by rw [List.length_map, List.length_take]; omega), ⟨_, _, rfl⟩, s5.put nfH, ?_⟩
    show upd _ _ _ _ = _
    rw [upd_same, take_succ hx, List.map_append]
    rfl
  · rintro σ H2 ⟨_, s2, _⟩
    exact k H2 s2
end
end Tw
end
section
/-! text W9 -/
set_option maxHeartbeats 4000000
namespace Tw
open PySem PySem.Spec PyProof.Rows L2
/-- all but the one at x is as it was -/
def SX (x : Addr) (H H' : Hp) : Prop := ∀ b o, b ≠ x → H b = some o → H' b = some o
theorem SX.refl (x : Addr) (H : Hp) : SX x H H := fun _ _ _ h => h
theorem SX.trans {x : Addr} {H H1 H2 : Hp} (a : SX x H H1) (b : SX x H1 H2) : SX x H H2 := fun c o n h => b c o n (a c o n h)
theorem SX.same {x : Addr} {H H1 H2 : Hp} (a : SX x H H1) (b : Same H1 H2) : SX x H H2 := fun c o n h => b c o (a c o n h)
theorem SX.of {x : Addr} {H H1 : Hp} (a : Same H H1) : SX x H H1 := fun c o _ h => a c o h
theorem SX.new {x p : Addr} {o : HO} {H H1 : Hp} (a : SX x H H1) (h : H1 p = none) : SX x H (upd H1 p o) := a.same (same_new h)
theorem SX.set {x : Addr} {o : HO} {H H1 : Hp} (a : SX x H H1) : SX x H (upd H1 x o) := fun c u n h => by
  rw [upd_ne n]; exact a c u n h
theorem SX.put {x p : Addr} {o : HO} {H H1 : Hp} (a : SX x H H1) (h : H p = none) : SX x H (upd H1 p o) := fun c u n e => by
  rw [upd_ne (ne_of_none e h)]; exact a c u n e
/-- an instance just made and filled: what was there is there -/
theorem made_same {x dx C : Addr} {H H' : Hp} (hx : H x = none) (hd : H dx = none) (s : SX x (upd (upd H dx (.own x)) x (.ins C dx [])) H') : Same H H' := fun b o h => by
  have n1 : b ≠ x := ne_of_none h hx
  refine s b o n1 ?_
  rw [upd_ne n1, upd_ne (ne_of_none h hd)]
  exact h
/-- a dict comprehension over a list that stays -/
theorem dc_list {K : PySem.W.Frag} {a : Addr} {xs : List V} {g : TG} {tt : TT} {tk tv : TE} {vs : List Nat} {σ : L2.St} {H1 : Hp} {D : Addr} {Qd : Hp → Prop} (Pv : Nat → Hp → Prop) (h0 : Pv 0 (upd H1 D (.dK []))) (hl : ∀ i H, i ≤ xs.length → Pv i H → SqL K H a xs)
    (hs : ∀ i x H, xs[i]? = some x → Pv i H → g x (wipe σ vs) H fun σ2 H2 => wipe σ2 vs = wipe σ vs ∧ tt σ2 H2 fun b H3 =>
      if b = true then tk σ2 H3 fun y H4 => tv σ2 H4 fun z H5 => ∃ kvs k, y = kV k ∧ H5 D = some (.dK kvs) ∧ kvs.length < sizeLine ∧ Pv (i + 1) (upd H5 D (.dK (putK kvs k z))) else Pv (i + 1) H3) (hd : ∀ H, Pv xs.length H → Qd H) :
    ∃ W : Nat → Nat → Hp → Prop, (∃ m, W 0 m (upd H1 D (.dK []))) ∧ ∀ i m H, W i m H →
      ((Itl K a).stop i H ∧ Qd H) ∨ ((Itl K a).go i H ∧ ∃ Nx : Hp → Prop, (∀ H', Nx H' → ∃ m', m' < m ∧ W (i + 1) m' H') ∧ ∀ x H', (Itl K a).yld i H x H' → g x (wipe σ vs) H' fun σ2 H2 => wipe σ2 vs = wipe σ vs ∧ tt σ2 H2 fun b H3 =>
        if b = true then tk σ2 H3 fun y H4 => tv σ2 H4 fun z H5 => ∃ kvs k, y = kV k ∧ H5 D = some (.dK kvs) ∧ kvs.length < sizeLine ∧ Nx (upd H5 D (.dK (putK kvs k z))) else Nx H3) := by
  refine ⟨fun i m H => m = xs.length - i ∧ i ≤ xs.length ∧ Pv i H, ⟨_, rfl, Nat.zero_le _, h0⟩, ?_⟩
  rintro i m H ⟨rfl, hi, hp⟩
  have hL := hl i H hi hp
  by_cases hlt : i < xs.length
  · refine .inr ⟨⟨xs, xs[i], hL, List.getElem?_eq_getElem hlt⟩, Pv (i + 1), fun H' h' => ⟨xs.length - (i + 1), by omega, rfl, hlt, h'⟩, ?_⟩
    rintro v H' ⟨rfl, hx⟩
    exact hs i v H' (hx xs hL) hp
  · have e : i = xs.length := by omega
    subst e
    exact .inl ⟨⟨xs, hL, Nat.le_refl _⟩, hd H hp⟩
/-- the same readings in every block -/
theorem pg_tupB (K : PySem.W.Frag) (n : Nat) {X : Cx} {pos : Pos} {es : List Expr} {k : Nat} {t : TGs} (hc : X.calm = true) (h : PGs X es t) (hK : X.K = K := by rfl)
    (hn : (assignEach es X.env).length = n := by rfl) (hst : (assignEach es X.env).findIdx? (·.1) = none := by rfl) : PG X (.Tuple es k pos) (gTup K n t) := by
  subst hK; exact pg_tup hc h hn hst
def rTupOf (K : PySem.W.Frag) : List V → Hp → VK → Prop := fun xs H Q => ∃ p ys, xs = [.ref p] ∧ ((SqL K H p ys ∧ ∀ l, H l = none → Q (.ref l) (upd H l (.tup ys))) ∨ (SqT K H p ys ∧ Q (.ref p) H))
theorem call_tupB (K : PySem.W.Frag) {X : Cx} (hK : X.K = K := by rfl) : CallR X (.type "tuple") (rTupOf K) := by
  subst hK; exact call_tuple_of
section
variable {P : Program} {w : World} {K : PySem.W.Frag} {mg : Str → Option Value} {base : Heap}
theorem RowT.sx {H H' : Hp} {x : Addr} {o : HO} {t : Addr} {y : Str} {n : Nat} (r : RowT H t y n) (s : SX x H H') (hx : H x = some o) (ho : ∃ C dx fs, o = .ins C dx fs) : RowT H' t y n := by
  obtain ⟨C, dx, fs, rfl⟩ := ho
  obtain ⟨l, rs, a, b, c⟩ := r
  refine ⟨l, rs, s _ _ (fun e => ?_) a, s _ _ (fun e => ?_) b, c⟩
  · subst e; rw [hx] at a; cases a
  · subst e; rw [hx] at b; cases b
def spHouse : Sp := fun vs H Q _ => ∃ x a C dx ts ws n, vs = [.ref x, .ref a] ∧ H x = some (.ins C dx []) ∧ C = He.ga K "House" ∧ H a = some (.lst (ts.map V.ref)) ∧ RowsAt H ts ws n ∧ HouseOk ws n ∧ ∀ H', SX x H H' → Q .non H'
theorem ok_House (T : TX K mg) : CalN P w K mg base 5 "House" ["self", "rows"] (spHouse (K := K)) := by
  have Gr := ok_need_rows (P := P) (w := w) (base := base) T
  have cl : Cls K (He.ga K "House") := He.cls_ok (T.d.fact 72 rfl)
  have na1 : NoAttr K (He.ga K "House") "row_tuples" := He.noat_ok (T.d.fact 78 rfl)
  have na2 : NoAttr K (He.ga K "House") "by_word" := He.noat_ok (T.d.fact 79 rfl)
  refine mk_calN (q := "House.__init__") (st := s_House_init) T 45 73 45 rfl rfl rfl sc_House_init (fun _ _ _ _ _ _ us hl => match us, hl with | [_, _], _ => rfl) (fun vs H Q E h => ?_) (fun cdv A outer s H vs Q E hr h => ?_)
  · obtain ⟨x, a, C, dx, ts, ws, n, rfl, _⟩ := h; rfl
  obtain ⟨x, a, C, dx, ts, ws, n, rfl, hX, rfl, hA, R, ok, k⟩ := h
  refine ⟨_, pss_cons (ps_expr (pc Gr hr (pa_cons (pv 1) pa_nil)))
    (pss_cons (ps_fld (pv 0) (pe_lc (own := [("word", 2), ("rooms", 3)]) rfl sc_House_init.nd (pi_list (pv 1)) (blk (N := N_House_init) (sc := defScope s_House_init) (by decide +kernel)) (fun _ _ _ _ _ => pg_tupB K 2 rfl (pgs_cons (pg_name (i := 2) sc_House_init.nd rfl (.inl rfl)) (pgs_cons (pg_name (i := 3) sc_House_init.nd rfl (.inl rfl)) pgs_nil))) (fun _ _ _ _ _ => pts_nil)
      (fun _ _ _ _ _ => pe_tup (pa_cons (pv 2) (pa_cons (pe_callTy (call_tupB K) rfl (T.free 63 rfl) bo_tuple (pa_cons (pv 3) pa_nil)) pa_nil)))) rfl)
    (pss_one (ps_fld (pv 0) (pe_dc (own := [("word", 2), ("rooms", 3)]) rfl sc_House_init.nd (pi_list (pv 1)) (blk (N := N_House_init) (sc := defScope s_House_init) (by decide +kernel)) (fun _ _ _ _ _ => pg_tupB K 2 rfl (pgs_cons (pg_name (i := 2) sc_House_init.nd rfl (.inl rfl)) (pgs_cons (pg_name (i := 3) sc_House_init.nd rfl (.inl rfl)) pgs_nil))) (fun _ _ _ _ _ => pts_nil)
      (fun _ _ _ _ _ => pv 2) (fun _ _ _ _ _ => pe_callTy (call_tupB K) rfl (T.free 63 rfl) bo_tuple (pa_cons (pv 3) pa_nil))) rfl))), ?_⟩
  refine ⟨_, rfl, a, ts, ws, n, rfl, hA, R, ok, fun H1 s1 => ?_⟩
  have hA1 := s1 _ _ hA
  have R1 := R.mono s1
  have hX1 := s1 _ _ hX
  have hl6 : ts.length ≤ 6 := by rw [R.len]; exact ok.2.2.1
  refine ⟨_, rfl, a, rfl, ⟨_, SqL.of hA1⟩, fun D nD => lc_list (K := K) (a := a) (xs := ts.map V.ref) (fun i H2 => Same H1 H2 ∧ i ≤ 6 ∧ ∃ us : List V, us.length = i ∧ H2 D = some (.lst us)) ⟨same_new nD, by omega, [], rfl, upd_same⟩ (fun i H2 _ h2 => SqL.of (h2.1 _ _ hA1)) ?_ ?_⟩
  · rintro i v H2 hv ⟨s2, h3, us, hus, h2⟩
    obtain ⟨t, ht, rfl⟩ := map_at hv
    have hi := (List.getElem?_eq_some_iff.mp ht).1
    obtain ⟨y, hy⟩ : ∃ y, ws[i]? = some y := ⟨ws[i]'(by have := R.len; omega), List.getElem?_eq_getElem _⟩
    obtain ⟨l, rs, hT, hL, _, _⟩ := (R1.mono s2).row i t y ht hy
    refine ⟨t, _, rfl, SqT.of hT, rfl, _, _, rfl, _, _, rfl, rfl, rfl, ?_⟩
    unfold tYes
    refine iteT ?_
    refine ⟨_, rfl, _, rfl, l, _, rfl, .inl ⟨SqL.of hL, fun q nq => ⟨by show 2 ≤ sizeLine; decide, fun r nr => ⟨us, ?_, small_line' (by omega), ((s2.new nq).new nr).put nD, by omega, _, by rw [List.length_append, hus]; rfl, upd_same⟩⟩⟩⟩
    exact same_new nr _ _ (same_new nq _ _ h2)
  rintro H2 ⟨s2, _, us, _, h2⟩
  have hX2 := s2 _ _ hX1
  refine ⟨_, rfl, x, _, dx, [], rfl, hX2, cl, na1, by decide, ?_⟩
  have R2 : RowsAt (upd H2 x (.ins (He.ga K "House") dx (putF "row_tuples" (.ref D) []))) ts ws n := ⟨R.len, fun i t y h1 h2 => ((R1.mono s2).row i t y h1 h2).sx (SX.refl x H2).set hX2 ⟨_, _, _, rfl⟩⟩
  have sx : SX x H (upd H2 x (.ins (He.ga K "House") dx (putF "row_tuples" (.ref D) []))) := (SX.of (s1.trans s2)).set
  have hX3 : upd H2 x (.ins (He.ga K "House") dx (putF "row_tuples" (.ref D) [])) x = some (.ins (He.ga K "House") dx (putF "row_tuples" (.ref D) [])) := upd_same
  have hA3 : upd H2 x (.ins (He.ga K "House") dx (putF "row_tuples" (.ref D) [])) a = some (.lst (ts.map V.ref)) := sx _ _ (fun e => by subst e; rw [hX] at hA; cases hA) hA
  generalize upd H2 x (.ins (He.ga K "House") dx (putF "row_tuples" (.ref D) [])) = H3 at R2 sx hX3 hA3
  refine ⟨_, rfl, a, rfl, ⟨_, SqL.of hA3⟩, fun D2 nD2 => dc_list (K := K) (a := a) (xs := ts.map V.ref) (fun i H4 => Same H3 H4 ∧ ∃ kvs : List (Key × V), kvs.length ≤ i ∧ i ≤ 6 ∧ H4 D2 = some (.dK kvs)) ⟨same_new nD2, [], Nat.le_refl _, by omega, upd_same⟩ (fun i H4 _ h4 => SqL.of (h4.1 _ _ hA3)) ?_ ?_⟩
  · rintro i v H4 hv ⟨s4, kvs, hk, h6, h4⟩
    obtain ⟨t, ht, rfl⟩ := map_at hv
    have hi := (List.getElem?_eq_some_iff.mp ht).1
    obtain ⟨y, hy⟩ : ∃ y, ws[i]? = some y := ⟨ws[i]'(by have := R.len; omega), List.getElem?_eq_getElem _⟩
    obtain ⟨l, rs, hT, hL, _, _⟩ := (R2.mono s4).row i t y ht hy
    refine ⟨t, _, rfl, SqT.of hT, rfl, _, _, rfl, _, _, rfl, rfl, rfl, ?_⟩
    unfold tYes
    refine iteT ?_
    refine ⟨_, rfl, _, rfl, l, _, rfl, .inl ⟨SqL.of hL, fun q nq => ⟨kvs, .inr y, rfl, same_new nq _ _ h4, small_line' (by omega), (s4.new nq).put nD2, _, ?_, by omega, upd_same⟩⟩⟩
    have := length_putK kvs (Sum.inr y) (V.ref q)
    omega
  rintro H4 ⟨s4, kvs, _, _, h4⟩
  exact ⟨_, rfl, x, _, dx, _, rfl, s4 _ _ hX3, cl, na2, by show 1 < 1000; decide, k _ ((sx.same s4).set)⟩
end
end Tw
end
section
/-! text W10 -/
set_option maxHeartbeats 4000000
namespace Tw
open PySem PySem.Spec PyProof.Rows L2
theorem bo_dict : bootBuiltins "dict" = some (.type "dict") := by decide +kernel
/-- an attribute, read the same in every block -/
theorem pe_fldB (K : PySem.W.Frag) {X : Cx} {e : Expr} {f : Str} {pos : Pos} {ta : TE} (he : PE X e ta) (hK : X.K = K := by rfl) (hb : attributeBase e f X.env (eval e X.env) = eval e X.env := by rfl) : PE X (.Attribute e f pos) (tFld K ta f) := by
  subst hK; exact pe_fld he hb
abbrev skF (v1 v2 v3 v4 v5 : V) : List (Str × V) := [("ways", v1), ("size", v2), ("room", v3), ("ends", v4), ("still", v5)]
/-- an entry of a sketch's ways: a word and a list of n rooms -/
def WayOk (H : Hp) (n : Nat) (kv : Key × V) : Prop := ∃ (y : Str) (l : Addr) (rs : List Int), kv = (.inr y, .ref l) ∧ H l = some (.lst (rs.map V.int)) ∧ rs.length = n ∧ ∀ r ∈ rs, 0 ≤ r ∧ r < (n : Int)
theorem WayOk.mono {H H' : Hp} {n : Nat} {kv : Key × V} (h : WayOk H n kv) (s : Same H H') : WayOk H' n kv :=
  let ⟨y, l, rs, a, b, c⟩ := h
  ⟨y, l, rs, a, s _ _ b, c⟩
/-- a sketch of n rooms, of at most m ways -/
structure SkD (K : PySem.W.Frag) (H : Hp) (x : Addr) (n m : Nat) (dx d e : Addr) (r a b : Int) (st : Bool) (kvs : List (Key × V)) : Prop where
  obj : H x = some (.ins (He.ga K "Sketch") dx (skF (.ref d) (.int n) (.int r) (.ref e) (.bl st)))
  dict : H d = some (.dK kvs)
  ends : H e = some (.tup [.int a, .int b])
  r0 : 0 ≤ r
  r1 : r < (n : Int)
  a0 : 0 ≤ a
  a1 : a < (n : Int)
  b0 : 0 ≤ b
  b1 : b < (n : Int)
  few : kvs.length ≤ m
  way : ∀ kv ∈ kvs, WayOk H n kv
def Sk (K : PySem.W.Frag) (H : Hp) (x : Addr) (n m : Nat) : Prop := ∃ dx d e r a b st kvs, SkD K H x n m dx d e r a b st kvs
theorem Sk.mono {K : PySem.W.Frag} {H H' : Hp} {x : Addr} {n m : Nat} (h : Sk K H x n m) (s : Same H H') : Sk K H' x n m :=
  let ⟨dx, d, e, r, a, b, st, kvs, q⟩ := h
  ⟨dx, d, e, r, a, b, st, kvs, ⟨s _ _ q.obj, s _ _ q.dict, s _ _ q.ends, q.r0, q.r1, q.a0, q.a1, q.b0, q.b1, q.few, fun kv hk => (q.way kv hk).mono s⟩⟩
section
variable {P : Program} {w : World} {K : PySem.W.Frag} {mg : Str → Option Value} {base : Heap}
structure SkFacts (K : PySem.W.Frag) : Prop where
  cl : Cls K (He.ga K "Sketch")
  na1 : NoAttr K (He.ga K "Sketch") "ways"
  na2 : NoAttr K (He.ga K "Sketch") "size"
  na3 : NoAttr K (He.ga K "Sketch") "room"
  na4 : NoAttr K (He.ga K "Sketch") "ends"
  na5 : NoAttr K (He.ga K "Sketch") "still"
theorem TX.sk (T : TX K mg) : SkFacts K := ⟨He.cls_ok (T.d.fact 74 rfl), He.noat_ok (T.d.fact 80 rfl), He.noat_ok (T.d.fact 81 rfl), He.noat_ok (T.d.fact 82 rfl), He.noat_ok (T.d.fact 83 rfl), He.noat_ok (T.d.fact 84 rfl)⟩
def spSkI : Sp := fun vs H Q _ => ∃ x v1 v2 v3 v4 v5 C dx, vs = [.ref x, v1, v2, v3, v4, v5] ∧ H x = some (.ins C dx []) ∧ C = He.ga K "Sketch" ∧ ∀ H', SX x H H' → H' x = some (.ins C dx (skF v1 v2 v3 v4 v5)) → Q .non H'
theorem ok_SkI (T : TX K mg) : CalN P w K mg base 1 "Sketch" ["self", "ways", "size", "room", "ends", "still"] (spSkI (K := K)) := by
  have F := T.sk
  refine mk_calN (q := "Sketch.__init__") (st := s_Sketch_init) T 46 75 46 rfl rfl rfl sc_Sketch_init (fun _ _ _ _ _ _ us hl => match us, hl with | [_, _, _, _, _, _], _ => rfl) (fun vs H Q E h => ?_) (fun cdv A outer s H vs Q E hr h => ?_)
  · obtain ⟨x, v1, v2, v3, v4, v5, C, dx, rfl, _⟩ := h; rfl
  obtain ⟨x, v1, v2, v3, v4, v5, C, dx, rfl, hX, rfl, k⟩ := h
  refine ⟨_, pss_cons (ps_fld (pv 0) (pv 1) rfl) (pss_cons (ps_fld (pv 0) (pv 2) rfl) (pss_cons (ps_fld (pv 0) (pv 3) rfl) (pss_cons (ps_fld (pv 0) (pv 4) rfl) (pss_one (ps_fld (pv 0) (pv 5) rfl))))), ?_⟩
  refine ⟨_, rfl, _, rfl, x, _, dx, _, rfl, hX, F.cl, F.na1, by decide, ?_⟩
  refine ⟨_, rfl, _, rfl, x, _, dx, _, rfl, upd_same, F.cl, F.na2, by show 1 < 1000; decide, ?_⟩
  refine ⟨_, rfl, _, rfl, x, _, dx, _, rfl, upd_same, F.cl, F.na3, by show 2 < 1000; decide, ?_⟩
  refine ⟨_, rfl, _, rfl, x, _, dx, _, rfl, upd_same, F.cl, F.na4, by show 3 < 1000; decide, ?_⟩
  refine ⟨_, rfl, _, rfl, x, _, dx, _, rfl, upd_same, F.cl, F.na5, by show 4 < 1000; decide, ?_⟩
  exact k _ (SX.refl x H).set.set.set.set.set upd_same
/-- a sketch is made of its parts -/
theorem sk_made {H H1 : Hp} {x dx d e : Addr} {n m : Nat} {r a b : Int} {st : Bool} {kvs : List (Key × V)} (hx : H x = none) (hdx : H dx = none) (s : Same H H1)
    (obj : H1 x = some (.ins (He.ga K "Sketch") dx (skF (.ref d) (.int n) (.int r) (.ref e) (.bl st)))) (hd : H d = some (.dK kvs)) (he : H e = some (.tup [.int a, .int b])) (r0 : 0 ≤ r) (r1 : r < (n : Int)) (a0 : 0 ≤ a) (a1 : a < (n : Int)) (b0 : 0 ≤ b) (b1 : b < (n : Int)) (few : kvs.length ≤ m)
    (way : ∀ kv ∈ kvs, WayOk H n kv) : Sk K H1 x n m := ⟨dx, d, e, r, a, b, st, kvs, obj, s _ _ hd, s _ _ he, r0, r1, a0, a1, b0, b1, few, fun kv hk => (way kv hk).mono s⟩
theorem valV_mem {kvs : List (Key × V)} {k : Key} {v : V} (h : valV kvs k = some v) : ∃ kv ∈ kvs, kv = (k, v) := by
  unfold valV at h
  obtain ⟨kv, h1, h2⟩ := Option.map_eq_some_iff.mp h
  have e1 := List.find?_some h1
  refine ⟨kv, List.mem_of_find?_eq_some h1, ?_⟩
  obtain ⟨a, b⟩ := kv
  have e1 : a = k := of_decide_eq_true e1
  have h2 : b = v := h2
  rw [e1, h2]
end
end Tw
end
section
/-! text W11 -/
set_option maxHeartbeats 4000000
namespace Tw
open PySem PySem.Spec PyProof.Rows L2
theorem mem_putK {kvs : List (Key × V)} {k : Key} {v : V} {kv : Key × V} (h : kv ∈ putK kvs k v) : kv ∈ kvs ∨ kv = (k, v) := by
  unfold putK at h
  split at h
  · obtain ⟨q, h1, h2⟩ := List.mem_map.mp h
    split at h2
    · rename_i e
      rw [e] at h2
      exact .inr h2.symm
    · rw [← h2]; exact .inl h1
  · rcases List.mem_append.mp h with h | h
    · exact .inl h
    · exact .inr (List.mem_singleton.mp h)
theorem RowsAt.snoc {H : Hp} {ts : List Addr} {ys : List Str} {n i : Nat} {t : Addr} {y : Str} (R : RowsAt H ts (ys.take i) n) (r : RowT H t y n) (hy : ys[i]? = some y) (hl : ts.length = i) : RowsAt H (ts ++ [t]) (ys.take (i + 1)) n where
  len := by
    have := (List.getElem?_eq_some_iff.mp hy).1
    rw [List.length_append, List.length_singleton, List.length_take, hl]; omega
  row := fun j t' x h1 h2 => by
    have hj := (List.getElem?_eq_some_iff.mp h1).1
    rw [List.length_append, List.length_singleton] at hj
    by_cases c : j < i
    · rw [List.getElem?_append_left (by omega)] at h1
      rw [List.getElem?_take, if_pos (by omega)] at h2
      exact R.row j t' x h1 (by rw [List.getElem?_take, if_pos c]; exact h2)
    · have e : j = i := by omega
      subst e
      rw [List.getElem?_append_right (by omega), hl, Nat.sub_self] at h1
      rw [List.getElem?_take, if_pos (by omega), hy] at h2
      cases h1; cases h2
      exact r
theorem rg_ints (n : Nat) : rgV 0 (n : Int) = ((List.range n).map fun i : Nat => (i : Int)).map V.int := by
  unfold rgV
  rw [Int.sub_zero, Int.toNat_natCast, List.map_map]
  refine List.map_congr_left fun i _ => ?_
  show V.int (0 + (i : Int)) = V.int (i : Int)
  rw [Int.zero_add]
section
variable {P : Program} {w : World} {K : PySem.W.Frag} {mg : Str → Option Value} {base : Heap}
def spHs (K : PySem.W.Frag) : Sp := fun vs H Q _ => ∃ x a ws n m, vs = [.ref x, .ref a] ∧ Sk K H x n m ∧ LS H a ws ∧ HouseOk ws n ∧ ∀ H' h, Same H H' → Q (.ref h) H'
theorem ok_Hs (T : TX K mg) : CalM P w K mg base 7 "Sketch" "house" ["self", "words"] (spHs K) := by
  have F := T.sk
  have GH := ok_House (P := P) (w := w) (base := base) T
  refine mk_calM (q := "Sketch.house") (st := s_Sketch_house) T 47 89 74 rfl rfl rfl sc_Sketch_house (fun _ _ _ _ _ _ us hl => match us, hl with | [_, _], _ => rfl) (fun vs H Q E h => ?_) (fun cdv A outer s H vs Q E hr h => ?_)
  · obtain ⟨x, a, ws, n, m, rfl, _⟩ := h; rfl
  obtain ⟨x, a, ws, n, m, rfl, ⟨dx, d, e, r, ea, eb, st, kvs, S⟩, hA, ⟨nd, n1, n2, n3, n4, wok⟩, k⟩ := h
  refine ⟨_, pss_one (ps_ret (pk GH hr (pa_cons (pe_lc (own := [("word", 2)]) rfl sc_Sketch_house.nd (pi_list (pe_callB cr_sortedS rfl (T.free 56 rfl) bo_sorted (pa_cons (pv 1) pa_nil))) (blk (N := N_Sketch_house) (sc := defScope s_Sketch_house) (by decide +kernel)) (fun _ _ _ _ _ => pg_name (i := 2) sc_Sketch_house.nd rfl (.inl rfl)) (fun _ _ _ _ _ => pts_nil)
      (fun _ _ _ _ _ => pe_tup (pa_cons (pv 2) (pa_cons (pe_dget2 (hu_of hr) (pe_fldB K (pv 0)) (pv 2) (pe_listRg rfl rfl (T.free 54 rfl) (prg_1 rfl (T.free 59 rfl) (pe_fldB K (pv 0)))) ⟨rfl, rfl, rfl, rfl⟩) pa_nil)))) pa_nil))), ?_⟩
  refine ⟨_, rfl, a, ws, rfl, SqL.of hA, by omega, fun ys p pm so np => ?_⟩
  have s1 : Same H (upd H p (.lst (ys.map V.str))) := same_new np
  have hp : LS (upd H p (.lst (ys.map V.str))) p ys := upd_same
  generalize upd H p (.lst (ys.map V.str)) = H1 at s1 hp
  have hyl : ys.length ≤ 6 := by rw [pm.length_eq]; exact n2
  refine ⟨p, rfl, ⟨_, SqL.of hp⟩, fun D nD => lc_list (K := K) (a := p) (xs := ys.map V.str) (fun i H2 => Same H1 H2 ∧ i ≤ 6 ∧ ∃ ts : List Addr, ts.length = i ∧ H2 D = some (.lst (ts.map V.ref)) ∧ RowsAt H2 ts (ys.take i) n) ⟨same_new nD, by omega, [], rfl, upd_same, ⟨by simp, fun j t x h => by simp at h⟩⟩ (fun i H2 _ h2 => SqL.of (h2.1 _ _ hp)) ?_ ?_⟩
  · rintro i v H2 hv ⟨s2, h6, ts, ht, h2, R⟩
    obtain ⟨y, hy, rfl⟩ := map_at hv
    have hi := (List.getElem?_eq_some_iff.mp hy).1
    have s12 := s1.trans s2
    refine ⟨rfl, ?_⟩
    unfold tYes
    refine iteT ?_
    refine ⟨_, rfl, _, rfl, x, _, dx, _, _, rfl, s12 _ _ S.obj, F.cl, F.na1, rfl, d, rfl, .inl ⟨kvs, .inl (s12 _ _ S.dict)⟩, _, rfl, _, rfl, x, _, dx, _, _, rfl, s12 _ _ S.obj, F.cl, F.na2, rfl, n, rfl, RgOk.of_le (by omega) (by omega) (by omega) (by omega), fun q nq => ?_⟩
    have s3 := s12.new (o := .lst (rgV 0 (n : Int))) nq
    have hq : upd H2 q (.lst (rgV 0 (n : Int))) q = some (.lst (rgV 0 (n : Int))) := upd_same
    have h2q : upd H2 q (.lst (rgV 0 (n : Int))) D = some (.lst (ts.map V.ref)) := same_new nq _ _ h2
    have Rq := R.mono (same_new (o := .lst (rgV 0 (n : Int))) nq)
    have s23 := s2.new (o := .lst (rgV 0 (n : Int))) nq
    generalize upd H2 q (.lst (rgV 0 (n : Int))) = H3 at s3 hq h2q Rq s23
    refine ⟨valV kvs (.inr y), DGet.k (k := Sum.inr y) (s3 _ _ S.dict), by show 2 ≤ sizeLine; decide, fun t nt => ?_⟩
    have key : ∃ (l : Addr) (rs : List Int), (valV kvs (.inr y)).getD (.ref q) = .ref l ∧ H3 l = some (.lst (rs.map V.int)) ∧ rs.length = n ∧ ∀ r ∈ rs, 0 ≤ r ∧ r < (n : Int) := by
      cases hv : valV kvs (.inr y) with
      | none =>
        refine ⟨q, _, rfl, by rw [hq, rg_ints], by rw [List.length_map, List.length_range], fun r hr2 => ?_⟩
        obtain ⟨i, hi, e⟩ := List.mem_map.mp hr2
        have := List.mem_range.mp hi
        omega
      | some v =>
        obtain ⟨kv, hk, e⟩ := valV_mem hv
        obtain ⟨y2, l, rs, e2, hl, e3, e4⟩ := S.way kv hk
        rw [e] at e2
        cases e2
        exact ⟨l, rs, rfl, s3 _ _ hl, e3, e4⟩
    obtain ⟨l, rs, e1, hl, e2, e3⟩ := key
    rw [e1]
    refine ⟨ts.map V.ref, same_new nt _ _ h2q, small_line' (by rw [List.length_map]; omega), (s23.new nt).put nD, by omega, ts ++ [t], by rw [List.length_append, ht]; rfl, ?_, ?_⟩
    · rw [upd_same, List.map_append]; rfl
    · have hD : D ≠ t := fun e => by subst e; rw [h2q] at nt; cases nt
      have hDl : l ≠ D := fun e => by
        subst e
        rw [h2q] at hl
        have : ts.map V.ref = rs.map V.int := HO.lst.inj (Option.some.inj hl)
        cases ts with
        | nil =>
          cases rs with
          | nil => rw [List.length_nil] at e2; omega
          | cons _ _ => cases this
        | cons _ _ =>
          cases rs with
          | nil => cases this
          | cons _ _ => cases this
      refine RowsAt.snoc ⟨Rq.len, fun j t' z h1 h3 => ?_⟩ ⟨l, rs, ?_, ?_, e2, e3⟩ hy ht
      · obtain ⟨l', rs', g1, g2, g3, g4⟩ := Rq.row j t' z h1 h3
        refine ⟨l', rs', ?_, ?_, g3, g4⟩
        · rw [upd_ne (fun e => by subst e; rw [h2q] at g1; cases g1), upd_ne (ne_of_none g1 nt)]; exact g1
        · have : l' ≠ D := fun e => by
            subst e
            rw [h2q] at g2
            have : ts.map V.ref = rs'.map V.int := HO.lst.inj (Option.some.inj g2)
            cases ts with
            | nil => cases h1
            | cons _ _ =>
              cases rs' with
              | nil => cases this
              | cons _ _ => cases this
          rw [upd_ne this, upd_ne (ne_of_none g2 nt)]; exact g2
      · rw [upd_ne hD.symm, upd_same]
      · rw [upd_ne hDl, upd_ne (ne_of_none hl nt)]; exact hl
  · rintro H2 ⟨s2, _, ts, ht, h2, R⟩ x2 dx2 f1 f2 f3
    rw [List.length_map, List.take_length] at R
    have sB := s1.trans s2
    have sC : Same H2 (upd (upd H2 dx2 (.own x2)) x2 (.ins (He.ga K "House") dx2 [])) := (same_new f2).put f1
    refine ⟨x2, D, _, dx2, ts, ys, n, rfl, upd_same, rfl, sC _ _ h2, R.mono sC, ⟨pm.nodup_iff.mpr nd, by rw [pm.length_eq]; exact n1, hyl, n3, n4, fun z hz => wok z (pm.mem_iff.mp hz)⟩, fun H' sx => ⟨rfl, k H' x2 (sB.trans (made_same f1 f2 sx))⟩⟩
end
end Tw
end
section
/-! text W12 -/
set_option maxHeartbeats 4000000
namespace Tw
open PySem PySem.Spec PyProof.Rows L2
/-- a dict comprehension over the items of a locked dict -/
theorem dc_items {d : Addr} {o : Obj} {kvs0 : List (Key × V)} {g : TG} {tt : TT} {tk tv : TE} {vs : List Nat} {σ : L2.St} {H1 : Hp} {D : Addr} {Qd : Hp → Prop} (Pv : Nat → Hp → Prop) (h0 : Pv 0 (upd H1 D (.dK []))) (hl : ∀ i H, Pv i H → H d = some (.frz o (.dK kvs0)))
    (hs : ∀ i k v T H, kvs0[i]? = some (k, v) → Pv i H → H T = none → g (.ref T) (wipe σ vs) (upd H T (.tup [kV k, v])) fun σ2 H2 => wipe σ2 vs = wipe σ vs ∧ tt σ2 H2 fun b H3 =>
      if b = true then tk σ2 H3 fun y H4 => tv σ2 H4 fun z H5 => ∃ kvs k, y = kV k ∧ H5 D = some (.dK kvs) ∧ kvs.length < sizeLine ∧ Pv (i + 1) (upd H5 D (.dK (putK kvs k z))) else Pv (i + 1) H3) (hd : ∀ H, Pv kvs0.length H → Qd H) :
    ∃ W : Nat → Nat → Hp → Prop, (∃ m, W 0 m (upd H1 D (.dK []))) ∧ ∀ i m H, W i m H →
      ((Iti d o kvs0).stop i H ∧ Qd H) ∨ ((Iti d o kvs0).go i H ∧ ∃ Nx : Hp → Prop, (∀ H', Nx H' → ∃ m', m' < m ∧ W (i + 1) m' H') ∧ ∀ x H', (Iti d o kvs0).yld i H x H' → g x (wipe σ vs) H' fun σ2 H2 => wipe σ2 vs = wipe σ vs ∧ tt σ2 H2 fun b H3 =>
        if b = true then tk σ2 H3 fun y H4 => tv σ2 H4 fun z H5 => ∃ kvs k, y = kV k ∧ H5 D = some (.dK kvs) ∧ kvs.length < sizeLine ∧ Nx (upd H5 D (.dK (putK kvs k z))) else Nx H3) := by
  refine ⟨fun i m H => m = kvs0.length - i ∧ i ≤ kvs0.length ∧ Pv i H, ⟨_, rfl, Nat.zero_le _, h0⟩, ?_⟩
  rintro i m H ⟨rfl, hi, hp⟩
  have hL := hl i H hp
  by_cases hlt : i < kvs0.length
  · refine .inr ⟨⟨hL, hlt⟩, Pv (i + 1), fun H' h' => ⟨kvs0.length - (i + 1), by omega, rfl, hlt, h'⟩, ?_⟩
    rintro x H' ⟨T, k, v, hk, rfl, hT, rfl⟩
    exact hs i k v T H hk hp hT
  · have e : i = kvs0.length := by omega
    subst e
    exact .inl ⟨⟨hL, Nat.le_refl _⟩, hd H hp⟩
/-- a list comprehension over a range, its list of n ints -/
theorem three_ok {n : Nat} {rs : List Int} (h : rs.all (fun r => decide (0 ≤ r ∧ r < (n : Int))) = true) : ∀ r ∈ rs, 0 ≤ r ∧ r < (n : Int) := fun r hr => of_decide_eq_true (List.all_eq_true.mp h r hr)
section
variable {P : Program} {w : World} {K : PySem.W.Frag} {mg : Str → Option Value} {base : Heap}
def spWf (K : PySem.W.Frag) (n : Nat) : Sp := fun vs H Q _ => ∃ x y, vs = [.str x, .str y] ∧ ∀ H' s, Same H H' → Sk K H' s n 2 → Q (.ref s) H'
theorem way_new {H : Hp} {n : Nat} {y : Str} {l : Addr} {rs : List Int} (h : H l = some (.lst (rs.map V.int))) (e : rs.length = n) (c : ∀ r ∈ rs, 0 ≤ r ∧ r < (n : Int)) : WayOk H n (.inr y, .ref l) := ⟨y, l, rs, rfl, h, e, c⟩
theorem ok_which_first (T : TX K mg) : Cal P w K mg base 3 "which_first" ["one", "other"] (spWf K 3) := by
  have G := ok_SkI (P := P) (w := w) (base := base) T
  refine mk_cal (y := "which_first") (st := s_which_first) T 16 16 rfl rfl sc_which_first (fun _ _ _ _ _ _ us hl => match us, hl with | [_, _], _ => rfl) (fun vs H Q E h => ?_) (fun cdv A outer s H vs Q E hr h => ?_)
  · obtain ⟨x, y, rfl, _⟩ := h; rfl
  obtain ⟨x, y, rfl, k⟩ := h
  refine ⟨_, pss_one (ps_ret (pk G hr (pa_cons (pe_disp (pps_cons (pv 0) (pe_lst (pa_cons pe_int (pa_cons pe_int (pa_cons pe_int pa_nil)))) (pps_cons (pv 1) (pe_lst (pa_cons pe_int (pa_cons pe_int (pa_cons pe_int pa_nil)))) pps_nil)) rfl rfl (by simp) (by simp))
    (pa_cons pe_int (pa_cons pe_int (pa_cons (pe_tup (pa_cons pe_int (pa_cons pe_int pa_nil))) (pa_cons pe_bl pa_nil))))))), ?_⟩
  refine fun d nd => ⟨_, rfl, by show 3 ≤ sizeLine; decide, fun l1 nl1 => ⟨_, rfl, by show 3 ≤ sizeLine; decide, fun l2 nl2 => ?_⟩⟩
  have hd2 : upd (upd (upd H d (.dK [])) l1 (.lst [V.int 1, V.int 1, V.int 2])) l2 (.lst [V.int 2, V.int 1, V.int 2]) d = some (.dK []) := same_new nl2 _ _ (same_new nl1 _ _ upd_same)
  have h1 : upd (upd (upd H d (.dK [])) l1 (.lst [V.int 1, V.int 1, V.int 2])) l2 (.lst [V.int 2, V.int 1, V.int 2]) l1 = some (.lst (([1, 1, 2] : List Int).map V.int)) := same_new nl2 _ _ upd_same
  have h2 : upd (upd (upd H d (.dK [])) l1 (.lst [V.int 1, V.int 1, V.int 2])) l2 (.lst [V.int 2, V.int 1, V.int 2]) l2 = some (.lst (([2, 1, 2] : List Int).map V.int)) := upd_same
  have s2 : Same H (upd (upd (upd H d (.dK [])) l1 (.lst [V.int 1, V.int 1, V.int 2])) l2 (.lst [V.int 2, V.int 1, V.int 2])) := ((same_new nd).new nl1).new nl2
  generalize upd (upd (upd H d (.dK [])) l1 (.lst [V.int 1, V.int 1, V.int 2])) l2 (.lst [V.int 2, V.int 1, V.int 2]) = H2 at hd2 h1 h2 s2
  refine ⟨hd2, [(.inr x, .ref l1), (.inr y, .ref l2)], rfl, by simp, ?_⟩
  have s3 := s2.put (o := .dK (mergeK [] [(.inr x, .ref l1), (.inr y, .ref l2)])) nd
  have g1 : upd H2 d (.dK (mergeK [] [(.inr x, .ref l1), (.inr y, .ref l2)])) l1 = some (.lst (([1, 1, 2] : List Int).map V.int)) := by
    rw [upd_ne (fun e => by subst e; rw [hd2] at h1; cases h1)]; exact h1
  have g2 : upd H2 d (.dK (mergeK [] [(.inr x, .ref l1), (.inr y, .ref l2)])) l2 = some (.lst (([2, 1, 2] : List Int).map V.int)) := by
    rw [upd_ne (fun e => by subst e; rw [hd2] at h2; cases h2)]; exact h2
  have g3 : upd H2 d (.dK (mergeK [] [(.inr x, .ref l1), (.inr y, .ref l2)])) d = some (.dK (mergeK [] [(.inr x, .ref l1), (.inr y, .ref l2)])) := upd_same
  generalize upd H2 d (.dK (mergeK [] [(.inr x, .ref l1), (.inr y, .ref l2)])) = H3 at s3 g1 g2 g3
  refine ⟨by show 2 ≤ sizeLine; decide, fun e ne f dx nf ndx hne => ?_⟩
  have s4 : Same H3 (upd (upd (upd H3 e (.tup [.int 2, .int 1])) dx (.own f)) f (.ins (He.ga K "Sketch") dx [])) := ((same_new ne).new ndx).put (same_new ne |>.free nf)
  refine ⟨f, _, _, _, _, _, _, dx, rfl, upd_same, rfl, fun H' sx ob => ⟨rfl, k H' f (s3.trans ((same_new ne).trans (made_same nf ndx sx))) ?_⟩⟩
  have sA : Same H3 H' := (same_new ne).trans (made_same nf ndx sx)
  refine sk_made (H := upd H3 e (.tup [.int 2, .int 1])) nf ndx (made_same nf ndx sx) ob (same_new ne _ _ g3) upd_same (by decide) (by decide) (by decide) (by decide) (by decide) (by decide) ?_ fun kv hk => ?_
  · exact Nat.le_trans (length_mergeK _ _) (by simp)
  · have hk2 : kv ∈ putK (putK [] (.inr x) (.ref l1)) (.inr y) (.ref l2) := hk
    rcases mem_putK hk2 with q | q
    · rcases mem_putK q with q | q
      · cases q
      · rw [q]; exact way_new (same_new ne _ _ g1) rfl (three_ok (by decide))
    · rw [q]; exact way_new (same_new ne _ _ g2) rfl (three_ok (by decide))
theorem ok_which_last (T : TX K mg) : Cal P w K mg base 3 "which_last" ["one", "other"] (spWf K 2) := by
  have G := ok_SkI (P := P) (w := w) (base := base) T
  refine mk_cal (y := "which_last") (st := s_which_last) T 17 17 rfl rfl sc_which_last (fun _ _ _ _ _ _ us hl => match us, hl with | [_, _], _ => rfl) (fun vs H Q E h => ?_) (fun cdv A outer s H vs Q E hr h => ?_)
  · obtain ⟨x, y, rfl, _⟩ := h; rfl
  obtain ⟨x, y, rfl, k⟩ := h
  refine ⟨_, pss_one (ps_ret (pk G hr (pa_cons (pe_disp (pps_cons (pv 0) (pe_lst (pa_cons pe_int (pa_cons pe_int pa_nil))) (pps_cons (pv 1) (pe_lst (pa_cons pe_int (pa_cons pe_int pa_nil))) pps_nil)) rfl rfl (by simp) (by simp))
    (pa_cons pe_int (pa_cons pe_int (pa_cons (pe_tup (pa_cons pe_int (pa_cons pe_int pa_nil))) (pa_cons pe_bl pa_nil))))))), ?_⟩
  refine fun d nd => ⟨_, rfl, by show 2 ≤ sizeLine; decide, fun l1 nl1 => ⟨_, rfl, by show 2 ≤ sizeLine; decide, fun l2 nl2 => ?_⟩⟩
  have hd2 : upd (upd (upd H d (.dK [])) l1 (.lst [V.int 0, V.int 0])) l2 (.lst [V.int 1, V.int 1]) d = some (.dK []) := same_new nl2 _ _ (same_new nl1 _ _ upd_same)
  have h1 : upd (upd (upd H d (.dK [])) l1 (.lst [V.int 0, V.int 0])) l2 (.lst [V.int 1, V.int 1]) l1 = some (.lst (([0, 0] : List Int).map V.int)) := same_new nl2 _ _ upd_same
  have h2 : upd (upd (upd H d (.dK [])) l1 (.lst [V.int 0, V.int 0])) l2 (.lst [V.int 1, V.int 1]) l2 = some (.lst (([1, 1] : List Int).map V.int)) := upd_same
  have s2 : Same H (upd (upd (upd H d (.dK [])) l1 (.lst [V.int 0, V.int 0])) l2 (.lst [V.int 1, V.int 1])) := ((same_new nd).new nl1).new nl2
  generalize upd (upd (upd H d (.dK [])) l1 (.lst [V.int 0, V.int 0])) l2 (.lst [V.int 1, V.int 1]) = H2 at hd2 h1 h2 s2
  refine ⟨hd2, [(.inr x, .ref l1), (.inr y, .ref l2)], rfl, by simp, ?_⟩
  have s3 := s2.put (o := .dK (mergeK [] [(.inr x, .ref l1), (.inr y, .ref l2)])) nd
  have g1 : upd H2 d (.dK (mergeK [] [(.inr x, .ref l1), (.inr y, .ref l2)])) l1 = some (.lst (([0, 0] : List Int).map V.int)) := by
    rw [upd_ne (fun e => by subst e; rw [hd2] at h1; cases h1)]; exact h1
  have g2 : upd H2 d (.dK (mergeK [] [(.inr x, .ref l1), (.inr y, .ref l2)])) l2 = some (.lst (([1, 1] : List Int).map V.int)) := by
    rw [upd_ne (fun e => by subst e; rw [hd2] at h2; cases h2)]; exact h2
  have g3 : upd H2 d (.dK (mergeK [] [(.inr x, .ref l1), (.inr y, .ref l2)])) d = some (.dK (mergeK [] [(.inr x, .ref l1), (.inr y, .ref l2)])) := upd_same
  generalize upd H2 d (.dK (mergeK [] [(.inr x, .ref l1), (.inr y, .ref l2)])) = H3 at s3 g1 g2 g3
  refine ⟨by show 2 ≤ sizeLine; decide, fun e ne f dx nf ndx hne => ?_⟩
  have s4 : Same H3 (upd (upd (upd H3 e (.tup [.int 1, .int 0])) dx (.own f)) f (.ins (He.ga K "Sketch") dx [])) := ((same_new ne).new ndx).put (same_new ne |>.free nf)
  refine ⟨f, _, _, _, _, _, _, dx, rfl, upd_same, rfl, fun H' sx ob => ⟨rfl, k H' f (s3.trans ((same_new ne).trans (made_same nf ndx sx))) ?_⟩⟩
  have sA : Same H3 H' := (same_new ne).trans (made_same nf ndx sx)
  refine sk_made (H := upd H3 e (.tup [.int 1, .int 0])) nf ndx (made_same nf ndx sx) ob (same_new ne _ _ g3) upd_same (by decide) (by decide) (by decide) (by decide) (by decide) (by decide) ?_ fun kv hk => ?_
  · exact Nat.le_trans (length_mergeK _ _) (by simp)
  · have hk2 : kv ∈ putK (putK [] (.inr x) (.ref l1)) (.inr y) (.ref l2) := hk
    rcases mem_putK hk2 with q | q
    · rcases mem_putK q with q | q
      · cases q
      · rw [q]; exact way_new (same_new ne _ _ g1) rfl (three_ok (by decide))
    · rw [q]; exact way_new (same_new ne _ _ g2) rfl (three_ok (by decide))
theorem rep_flat (r : Int) : ∀ n, (List.replicate n [V.int r]).flatten = (List.replicate n r).map V.int
  | 0 => rfl
  | n + 1 => by
    rw [List.replicate_succ, List.flatten_cons, List.replicate_succ, List.map_cons, rep_flat r n]
    rfl
def spSb (K : PySem.W.Frag) : Sp := fun vs H Q _ => ∃ x y n m, vs = [.ref x, .str y] ∧ Sk K H x n m ∧ n ≤ 1000 ∧ m ≤ 1000 ∧ ∀ H' s, Same H H' → Sk K H' s n (m + 1) → Q (.ref s) H'
theorem ok_sent_back (T : TX K mg) : Cal P w K mg base 3 "sent_back" ["sketch", "word"] (spSb K) := by
  have F := T.sk
  have G := ok_SkI (P := P) (w := w) (base := base) T
  refine mk_cal (y := "sent_back") (st := s_sent_back) T 18 18 rfl rfl sc_sent_back (fun _ _ _ _ _ _ us hl => match us, hl with | [_, _], _ => rfl) (fun vs H Q E h => ?_) (fun cdv A outer s H vs Q E hr h => ?_)
  · obtain ⟨x, y, n, m, rfl, _⟩ := h; rfl
  obtain ⟨x, y, n, m, rfl, ⟨dx, d, e, r, ea, eb, st, kvs, S⟩, hn, hm, k⟩ := h
  refine ⟨_, pss_cons (ps_set (i := 2) sc_sent_back.nd rfl (.inl rfl) (pe_callTy call_dictD rfl (T.free 60 rfl) bo_dict (pa_cons (pe_fld (pv 0) rfl) pa_nil)))
    (pss_cons (ps_dput (hu_of hr) (pv 2) (pv 1) (pe_op op_rep (pe_lst (pa_cons (pe_fld (pv 0) rfl) pa_nil)) (pe_fld (pv 0) rfl)) rfl)
    (pss_one (ps_ret (pk G hr (pa_cons (pv 2) (pa_cons (pe_fld (pv 0) rfl) (pa_cons (pe_fld (pv 0) rfl) (pa_cons (pe_fld (pv 0) rfl) (pa_cons pe_bl pa_nil))))))))), ?_⟩
  refine ⟨_, rfl, x, _, dx, _, _, rfl, S.obj, F.cl, F.na1, rfl, d, kvs, rfl, .inl S.dict, fun q nq => ?_⟩
  have s1 := same_new (o := .dK kvs) nq
  have hq : upd H q (.dK kvs) q = some (.dK kvs) := upd_same
  generalize upd H q (.dK kvs) = H1 at s1 hq
  refine ⟨_, rfl, x, _, dx, _, _, rfl, s1 _ _ S.obj, F.cl, F.na3, rfl, by show 1 ≤ sizeLine; decide, fun l nl => ?_⟩
  have s2 := same_new (o := .lst [V.int r]) nl
  refine ⟨_, rfl, x, _, dx, _, _, rfl, s2 _ _ (s1 _ _ S.obj), F.cl, F.na2, rfl, l, n, [V.int r], rfl, rfl, upd_same, by omega, by omega, small_line (by show 1 * (n : Int).toNat ≤ _; omega), fun l2 nl2 => ?_⟩
  have s3 := s2.new (o := .lst (List.replicate (n : Int).toNat [V.int r]).flatten) nl2
  rw [rep_flat, Int.toNat_natCast]
  have s3 := (s1.trans s2).new (o := .lst ((List.replicate n r).map V.int)) nl2
  have hq2 : upd (upd H1 l (.lst [V.int r])) l2 (.lst ((List.replicate n r).map V.int)) q = some (.dK kvs) := same_new nl2 _ _ (s2 _ _ hq)
  have hl2 : upd (upd H1 l (.lst [V.int r])) l2 (.lst ((List.replicate n r).map V.int)) l2 = some (.lst ((List.replicate n r).map V.int)) := upd_same
  have fq : H q = none := nq
  generalize upd (upd H1 l (.lst [V.int r])) l2 (.lst ((List.replicate n r).map V.int)) = H2 at s3 hq2 hl2
  refine ⟨_, rfl, _, rfl, q, _, rfl, DPut.k (k := .inr y) hq2 (small_line' (by have := S.few; omega)), ?_⟩
  have s4 := s3.put (o := .dK (putK kvs (.inr y) (.ref l2))) fq
  have hl4 : upd H2 q (.dK (putK kvs (.inr y) (.ref l2))) l2 = some (.lst ((List.replicate n r).map V.int)) := by
    rw [upd_ne (fun e => by subst e; rw [hq2] at hl2; cases hl2)]; exact hl2
  have hq4 : upd H2 q (.dK (putK kvs (.inr y) (.ref l2))) q = some (.dK (putK kvs (.inr y) (.ref l2))) := upd_same
  generalize upd H2 q (.dK (putK kvs (.inr y) (.ref l2))) = H4 at s4 hl4 hq4
  refine ⟨_, rfl, _, rfl, x, _, dx, _, _, rfl, s4 _ _ S.obj, F.cl, F.na2, rfl, _, rfl, x, _, dx, _, _, rfl, s4 _ _ S.obj, F.cl, F.na3, rfl, _, rfl, x, _, dx, _, _, rfl, s4 _ _ S.obj, F.cl, F.na4, rfl, fun f dx2 nf ndx hne => ?_⟩
  refine ⟨f, _, _, _, _, _, _, dx2, rfl, upd_same, rfl, fun H' sx ob => ?_⟩
  have sm := made_same nf ndx sx
  refine ⟨rfl, k H' f (s4.trans sm) (sk_made nf ndx sm ob hq4 (s4 _ _ S.ends) S.r0 S.r1 S.a0 S.a1 S.b0 S.b1 (Nat.le_trans (length_putK _ _ _) (by have := S.few; omega)) fun kv hk => ?_)⟩
  rcases mem_putK hk with z | z
  · exact (S.way kv z).mono s4
  · rw [z]
    refine way_new hl4 (List.length_replicate) fun r' hr' => ?_
    rw [List.eq_of_mem_replicate hr']
    exact ⟨S.r0, S.r1⟩
end
end Tw
end
section
/-! text S8 -/
set_option maxHeartbeats 4000000
namespace Tw
open PySem PySem.Spec PyProof.Rows L2
section
variable {X : Cx}
abbrev InBlk (X : Cx) (scope : Scope) (p : Cx → Prop) : Prop := ∀ (s : Shared) (H : Hp) (C : Addr) (cl : List (Str × Addr)) (fp : List Addr), p (X.blk s H scope (compEnvC scope cl C X.env) fp)
/-- name = {k: v for ..} on one line, the name a local -/
theorem ps_setDc {i : Nat} {y : Str} {py : Pos} {kx vx tg iter : Expr} {ifs : List Expr} {scope : Scope} {own : List (Str × Nat)} {pos spos : Pos} {wi : TI} {g : TG} {tt : TT} {tk tv : TE}
    (calm : X.calm = true) (nd : X.N.Nodup) (at_ : X.N[i]? = some y) (loc : X.env.scope.names.lookup y = some .local)
    (sw : swapsWith (.DictComp kx vx [⟨tg, iter, ifs, 0⟩] scope pos) (some (.Name y py)) spos.line X.env = pure true)
    (walks : PI X tg iter wi) (blk : BlkOk X.N X.env.scope scope own) (stores : InBlk X scope fun Y => PG Y tg g) (tests : InBlk X scope fun Y => PTs Y ifs tt)
    (keys : InBlk X scope fun Y => PE Y kx tk) (vals : InBlk X scope fun Y => PE Y vx tv) (fold : ∀ x, foldedSetIterable iter X.env x = pure x := by intro _; rfl) :
    PS X (.Assign [.Name y py] (.DictComp kx vx [⟨tg, iter, ifs, 0⟩] scope pos) spos) (tAsg (tDc wi g tt tk tv (own.map (·.2))) (gName i)) := by
  constructor
  intro pins s σ H D I h
  rw [exec_Assign_Name_used _ _ _ _ sw]
  apply wpAny_bind
  apply wpAny_standAt
  apply wpAny_bind
  have core := dc_core (pos := pos) (use := some (assign (.Name y py) X.env)) (Qf := fun _ s' => SP X pins D .next s') (pos' := firstIterPos [⟨tg, iter, ifs, 0⟩] pos) calm nd I walks blk stores tests keys vals fold (h : tDc wi g tt tk tv (own.map (·.2)) σ H fun x H1 => gName i x σ H1 D.nx) (fun L C s' m H' I' q hn f => by
    refine wpAny_assign_Name (store_ok2 (v := V.ref L) I' nd at_ (.inl loc) rfl ?_ (.inr loc))
    rintro s2 I2 ⟨a, sb, ha⟩
    have haC : C ≠ a := by
      rcases ha with z | z
      · rw [z]; exact f.2.1
      · exact fun e => f.2.2.2.2.1 y a z e.symm
    refine ⟨m, hn.sameBut sb haC, fun h3 sb3 => ⟨_, H', ?_, q⟩⟩
    exact I2.turned (t' := s2.toks) (fun b o hb e => (sb3.2 b hb).trans e) f.1 f.2.1 f.2.2.2.1 f.2.2.2.2.1 f.2.2.2.2.2)
  show wpAny _ X.A (do
    let _ ← comprehension (.DictComp kx vx [⟨tg, iter, ifs, 0⟩] scope pos) scope X.env (firstIterPos [⟨tg, iter, ifs, 0⟩] pos) newDict false (eval iter X.env) (some (assign (.Name y py) X.env))) _ _ s
  exact wpAny_bind (thn core fun _ s' hq => wpAny_pure (wpAny_pure hq))
end
end Tw
end
section
/-! text W13 -/
set_option maxHeartbeats 4000000
namespace Tw
open PySem PySem.Spec PyProof.Rows L2
def rIxLB (K : PySem.W.Frag) : R2 := rIxL K
theorem ix_listB (K : PySem.W.Frag) {X : Cx} (hK : X.K = K := by rfl) : IxR X (rIxLB K) := by
  subst hK; exact ix_list
theorem WayOk.put {H : Hp} {n : Nat} {kv : Key × V} {D : Addr} {z : List (Key × V)} {o : HO} (h : WayOk H n kv) (hD : H D = some (.dK z)) : WayOk (upd H D o) n kv := by
  obtain ⟨y, l, rs, a, b, c⟩ := h
  exact ⟨y, l, rs, a, by rw [upd_ne (fun e => by subst e; rw [hD] at b; cases b)]; exact b, c⟩
theorem WayOk.of_lock {H2 : Hp} {n : Nat} {kv : Key × V} {d : Addr} {u o : HO} {ob : Obj} (h : WayOk H2 n kv) (hd : H2 d = some (.frz ob u)) : WayOk (upd H2 d o) n kv := by
  obtain ⟨y, l, rs, a, b, c⟩ := h
  exact ⟨y, l, rs, a, by rw [upd_ne (fun e => by subst e; rw [hd] at b; cases b)]; exact b, c⟩
theorem _root_.L2.Same.unlock {H H2 : Hp} {d : Addr} {u : HO} {od : Obj} (s : Same (upd H d (.frz od u)) H2) (hd : H d = some u) : Same H (upd H2 d u) := fun b o h => by
  by_cases e : b = d
  · subst e
    rw [hd] at h
    rw [upd_same]; exact h
  · rw [upd_ne e]
    exact s b o (by rw [upd_ne e]; exact h)
section
variable {P : Program} {w : World} {K : PySem.W.Frag} {mg : Str → Option Value} {base : Heap}
def spFz (K : PySem.W.Frag) : Sp := fun vs H Q _ => ∃ x y n m, vs = [.ref x, .str y] ∧ Sk K H x n m ∧ n ≤ 1000 ∧ m ≤ 1000 ∧ ∀ H' s n', Same H H' → n ≤ n' → n' ≤ n + 2 → Sk K H' s n' (m + 1) → Q (.ref s) H'
theorem ok_frozen (T : TX K mg) : Cal P w K mg base 3 "frozen" ["sketch", "word"] (spFz K) := by
  have F := T.sk
  have G := ok_SkI (P := P) (w := w) (base := base) T
  refine mk_cal (y := "frozen") (st := s_frozen) T 19 19 rfl rfl sc_frozen (fun _ _ _ _ _ _ us hl => match us, hl with | [_, _], _ => rfl) (fun vs H Q E h => ?_) (fun cdv A outer s H vs Q E hr h => ?_)
  · obtain ⟨x, y, n, m, rfl, _⟩ := h; rfl
  obtain ⟨x, y, n, m, rfl, ⟨dx, d, e, r, ea, eb, st, kvs, S⟩, hn, hm, k⟩ := h
  refine ⟨_, pss_cons (ps_asg (pe_fld (pv 0) rfl) (pg_tup rfl (pgs_cons (pg_name (i := 2) sc_frozen.nd rfl (.inr rfl)) (pgs_cons (pg_name (i := 3) sc_frozen.nd rfl (.inr rfl)) pgs_nil))))
    (pss_cons (ps_if (pt_val (pe_fld (pv 0) rfl))
      (pss_cons (ps_set (i := 5) sc_frozen.nd rfl (.inl rfl) (pe_callTy call_dictD rfl (T.free 60 rfl) bo_dict (pa_cons (pe_fld (pv 0) rfl) pa_nil)))
      (pss_cons (ps_dput (hu_of hr) (pv 5) (pv 1) (pe_lc (own := [("room", 8)]) rfl sc_frozen.nd (pi_range1 rfl (T.free 59 rfl) (pa_cons (pe_fld (pv 0) rfl) pa_nil)) (blk (N := N_frozen) (sc := defScope s_frozen) (by decide +kernel)) (fun _ _ _ _ _ => pg_name (i := 8) sc_frozen.nd rfl (.inl rfl)) (fun _ _ _ _ _ => pts_nil)
          (fun _ _ _ _ _ => pe_ifExp (pt_cmpR op_eq (pv 8) (pv 3) (nomark _)) (pv 3) (pv 2))) rfl)
      (pss_one (ps_ret (pk G hr (pa_cons (pv 5) (pa_cons (pe_fld (pv 0) rfl) (pa_cons (pe_fld (pv 0) rfl) (pa_cons (pe_fld (pv 0) rfl) (pa_cons pe_bl pa_nil))))))))))
      pss_nil)
    (pss_cons (ps_set (i := 4) sc_frozen.nd rfl (.inr rfl) (pe_lst (pa_cons (pe_fld (pv 0) rfl) (pa_cons (pe_op op_add (pe_fld (pv 0) rfl) pe_int) pa_nil))))
    (pss_cons (ps_lock (ps_setDc (i := 5) (own := [("other", 6), ("rooms", 7)]) rfl sc_frozen.nd rfl rfl rfl (pi_items (pe_fld (pv 0) rfl)) (blk (N := N_frozen) (sc := defScope s_frozen) (by decide +kernel)) (fun _ _ _ _ _ => pg_tupB K 2 rfl (pgs_cons (pg_name (i := 6) sc_frozen.nd rfl (.inl rfl)) (pgs_cons (pg_name (i := 7) sc_frozen.nd rfl (.inl rfl)) pgs_nil))) (fun _ _ _ _ _ => pts_nil)
      (fun _ _ _ _ _ => pv 6) (fun _ _ _ _ _ => pe_op op_cat (pv 7) (pv 4))))
    (pss_cons (ps_dput (hu_of hr) (pv 5) (pv 1) (pe_op op_cat (pe_lc (own := [("room", 8)]) rfl sc_frozen.nd (pi_range1 rfl (T.free 59 rfl) (pa_cons (pe_fld (pv 0) rfl) pa_nil)) (blk (N := N_frozen) (sc := defScope s_frozen) (by decide +kernel)) (fun _ _ _ _ _ => pg_name (i := 8) sc_frozen.nd rfl (.inl rfl)) (fun _ _ _ _ _ => pts_nil)
          (fun _ _ _ _ _ => pe_ifExp (pt_cmpR op_eq (pv 8) (pv 2) (nomark _)) (pe_ix (ix_listB K) (pv 4) pe_int (fun _ _ => rfl)) (pe_ix (ix_listB K) (pv 4) pe_int (fun _ _ => rfl)))) (pv 4)) rfl)
    (pss_one (ps_ret (pk G hr (pa_cons (pv 5) (pa_cons (pe_op op_add (pe_fld (pv 0) rfl) pe_int) (pa_cons (pe_fld (pv 0) rfl) (pa_cons (pe_tup (pa_cons (pe_ix ix_list (pv 4) pe_int (fun _ _ => rfl)) (pa_cons (pe_ix ix_list (pv 4) pe_int (fun _ _ => rfl)) pa_nil))) (pa_cons pe_bl pa_nil)))))))))))), ?_⟩
  refine ⟨_, rfl, x, _, dx, _, _, rfl, S.obj, F.cl, F.na4, rfl, e, _, rfl, SqT.of S.ends, rfl, _, _, rfl, _, _, rfl, rfl, ?_⟩
  refine ⟨_, rfl, x, _, dx, _, _, rfl, S.obj, F.cl, F.na5, rfl, _, rfl, ?_⟩
  cases st with
  | true =>
    refine iteT ?_
    refine ⟨_, rfl, x, _, dx, _, _, rfl, S.obj, F.cl, F.na1, rfl, d, kvs, rfl, .inl S.dict, fun q nq => ?_⟩
    have s1 := same_new (o := .dK kvs) nq
    have hq : upd H q (.dK kvs) q = some (.dK kvs) := upd_same
    generalize upd H q (.dK kvs) = H1 at s1 hq
    refine ⟨_, rfl, x, _, dx, _, _, rfl, s1 _ _ S.obj, F.cl, F.na2, rfl, n, rfl, by omega, by omega, fun D nD => lc_range (lo := 0) (n := (n : Int).toNat) (fun i H2 => Same H1 H2 ∧ i ≤ n ∧ ∃ rs : List Int, rs.length = i ∧ (∀ r ∈ rs, 0 ≤ r ∧ r < (n : Int)) ∧ H2 D = some (.lst (rs.map V.int))) ⟨same_new nD, by omega, [], rfl, fun r h => absurd h List.not_mem_nil, upd_same⟩ ?_ ?_⟩
    · rintro i H2 hi ⟨s2, h3, rs, e1, e2, h2⟩
      have step : ∀ z : Int, 0 ≤ z → z < (n : Int) → Same H1 (upd H2 D (.lst (rs.map V.int ++ [V.int z]))) ∧ i + 1 ≤ n ∧ ∃ rs' : List Int, rs'.length = i + 1 ∧ (∀ r ∈ rs', 0 ≤ r ∧ r < (n : Int)) ∧ upd H2 D (.lst (rs.map V.int ++ [V.int z])) D = some (.lst (rs'.map V.int)) := fun z z0 z1 => by
        refine ⟨s2.put nD, by omega, rs ++ [z], by rw [List.length_append, e1]; rfl, fun r hr2 => ?_, by rw [upd_same, List.map_append]; rfl⟩
        rcases List.mem_append.mp hr2 with q1 | q1
        · exact e2 r q1
        · rw [List.mem_singleton.mp q1]; exact ⟨z0, z1⟩
      refine ⟨rfl, ?_⟩
      unfold tYes
      refine iteT ?_
      refine ⟨_, rfl, _, rfl, rfl, _, rfl, ite_b decide_eq_true_iff (fun _ => ?_) (fun _ => ?_)⟩
      · exact ⟨_, rfl, _, h2, small_line' (by rw [List.length_map]; omega), step eb S.b0 S.b1⟩
      · exact ⟨_, rfl, _, h2, small_line' (by rw [List.length_map]; omega), step ea S.a0 S.a1⟩
    · rintro H2 ⟨s2, _, rs, e1, e2, h2⟩
      have hq2 := s2 _ _ hq
      refine ⟨_, rfl, _, rfl, q, _, rfl, DPut.k (k := .inr y) hq2 (small_line' (by have := S.few; omega)), ?_⟩
      have s4 : Same H (upd H2 q (.dK (putK kvs (.inr y) (.ref D)))) := (s1.trans s2).put nq
      have hD4 : upd H2 q (.dK (putK kvs (.inr y) (.ref D))) D = some (.lst (rs.map V.int)) := by
        rw [upd_ne (fun e => by subst e; rw [hq2] at h2; cases h2)]; exact h2
      have hq4 : upd H2 q (.dK (putK kvs (.inr y) (.ref D))) q = some (.dK (putK kvs (.inr y) (.ref D))) := upd_same
      generalize upd H2 q (.dK (putK kvs (.inr y) (.ref D))) = H4 at s4 hD4 hq4
      refine ⟨_, rfl, _, rfl, x, _, dx, _, _, rfl, s4 _ _ S.obj, F.cl, F.na2, rfl, _, rfl, x, _, dx, _, _, rfl, s4 _ _ S.obj, F.cl, F.na3, rfl, _, rfl, x, _, dx, _, _, rfl, s4 _ _ S.obj, F.cl, F.na4, rfl, fun f dx2 nf ndx hne => ?_⟩
      refine ⟨f, _, _, _, _, _, _, dx2, rfl, upd_same, rfl, fun H' sx ob => ?_⟩
      have sm := made_same nf ndx sx
      refine ⟨rfl, k H' f n (s4.trans sm) (Nat.le_refl _) (by omega) (sk_made nf ndx sm ob hq4 (s4 _ _ S.ends) S.r0 S.r1 S.a0 S.a1 S.b0 S.b1 (Nat.le_trans (length_putK _ _ _) (by have := S.few; omega)) fun kv hk => ?_)⟩
      rcases mem_putK hk with z | z
      · exact (S.way kv z).mono s4
      · rw [z]
        exact way_new hD4 (by rw [e1]; omega) e2
  | false =>
    refine iteF ?_
    refine ⟨_, rfl, x, _, dx, _, _, rfl, S.obj, F.cl, F.na2, rfl, _, rfl, x, _, dx, _, _, rfl, S.obj, F.cl, F.na2, rfl, n, 1, rfl, rfl, by show 2 ≤ sizeLine; decide, fun q nq => ?_⟩
    have s1 := same_new (o := .lst [V.int n, V.int ((n : Int) + 1)]) nq
    have hq : upd H q (.lst [V.int n, V.int ((n : Int) + 1)]) q = some (.lst (([(n : Int), (n : Int) + 1] : List Int).map V.int)) := upd_same
    generalize upd H q (.lst [V.int n, V.int ((n : Int) + 1)]) = H1 at s1 hq
    have hd1 := s1 _ _ S.dict
    refine ⟨d, .dK kvs, hd1, True.intro, fun od => ?_⟩
    have hd2 : upd H1 d (.frz od (.dK kvs)) d = some (.frz od (.dK kvs)) := upd_same
    have kl : ∀ b o, H1 b = some o → b ≠ d → upd H1 d (.frz od (.dK kvs)) b = some o := fun b o h n => by rw [upd_ne n]; exact h
    have hx2 := kl _ _ (s1 _ _ S.obj) (fun e => by have := S.obj; rw [e, S.dict] at this; cases this)
    have hq2 := kl _ _ hq (fun e => by rw [e, hd1] at hq; cases hq)
    have unl : ∀ H2, Same (upd H1 d (.frz od (.dK kvs))) H2 → Same H1 (upd H2 d (.dK kvs)) := fun H2 s => s.unlock hd1
    generalize upd H1 d (.frz od (.dK kvs)) = HL at hd2 kl hx2 hq2 unl
    refine ⟨_, rfl, x, _, dx, _, _, rfl, hx2, F.cl, F.na1, rfl, d, od, kvs, rfl, hd2, fun D nD => dc_items (fun i H2 => Same HL H2 ∧ i ≤ kvs.length ∧ ∃ kv2 : List (Key × V), H2 D = some (.dK kv2) ∧ kv2.length ≤ i ∧ ∀ kv ∈ kv2, WayOk H2 (n + 2) kv) ⟨same_new nD, Nat.zero_le _, [], upd_same, Nat.le_refl _, fun kv h => absurd h List.not_mem_nil⟩ (fun i H2 h2 => h2.1 _ _ hd2) ?_ ?_⟩
    · rintro i ky v T' H2 hv ⟨s2, h3, kv2, h2, e1, e2⟩ nT
      have hi := (List.getElem?_eq_some_iff.mp hv).1
      obtain ⟨y2, l, rs, e3, hl, e4, e5⟩ := S.way _ (List.mem_of_getElem? hv)
      cases e3
      have hl2 : H2 l = some (.lst (rs.map V.int)) := s2 _ _ (kl _ _ (s1 _ _ hl) (fun e => by rw [e, S.dict] at hl; cases hl))
      refine ⟨T', _, rfl, SqT.of upd_same, rfl, _, _, rfl, _, _, rfl, rfl, rfl, ?_⟩
      unfold tYes
      refine iteT ?_
      have sT := same_new (o := .tup [kV (Sum.inr y2), V.ref l]) nT
      refine ⟨_, rfl, _, rfl, _, rfl, l, q, _, _, rfl, rfl, sT _ _ hl2, sT _ _ (s2 _ _ hq2), small_line (by rw [List.length_map]; show _ + 2 ≤ _; omega), fun p np => ?_⟩
      have sP := sT.new (o := .lst (rs.map V.int ++ ([(n : Int), (n : Int) + 1] : List Int).map V.int)) np
      have hp : upd (upd H2 T' (.tup [kV (Sum.inr y2), V.ref l])) p (.lst (rs.map V.int ++ ([(n : Int), (n : Int) + 1] : List Int).map V.int)) p = some (.lst ((rs ++ [(n : Int), (n : Int) + 1]).map V.int)) := by
        rw [upd_same, List.map_append]
      generalize upd (upd H2 T' (.tup [kV (Sum.inr y2), V.ref l])) p (.lst (rs.map V.int ++ ([(n : Int), (n : Int) + 1] : List Int).map V.int)) = H5 at sP hp
      have hD5 := sP _ _ h2
      refine ⟨kv2, .inr y2, rfl, hD5, small_line' (by have := S.few; omega), (s2.trans sP).put nD, by omega, _, upd_same, Nat.le_trans (length_putK _ _ _) (by omega), fun kv hk => ?_⟩
      rcases mem_putK hk with z | z
      · exact ((e2 kv z).mono sP).put hD5
      · rw [z]
        refine (way_new (n := n + 2) hp (by rw [List.length_append, e4]; rfl) fun r hr2 => ?_).put hD5
        rcases List.mem_append.mp hr2 with q1 | q1
        · have := e5 r q1; omega
        · rcases List.mem_cons.mp q1 with q1 | q1
          · omega
          · rw [List.mem_singleton.mp q1]; omega
    rintro H2 ⟨s2, _, kv2, h2, e1, e2⟩
    have hdL := s2 _ _ hd2
    have hDd : D ≠ d := fun e => by rw [e, hd2] at nD; cases nD
    refine ⟨hdL, ?_⟩
    have s3 := unl H2 s2
    have h3 : upd H2 d (.dK kvs) D = some (.dK kv2) := by rw [upd_ne hDd]; exact h2
    have e3 : ∀ kv ∈ kv2, WayOk (upd H2 d (.dK kvs)) (n + 2) kv := fun kv hk => (e2 kv hk).of_lock hdL
    have nD1 : H1 D = none := by
      cases z : H1 D with
      | none => rfl
      | some o => have := kl _ _ z hDd; rw [nD] at this; cases this
    generalize upd H2 d (.dK kvs) = H3 at s3 h3 e3
    have s13 := s1.trans s3
    have hq3 := s3 _ _ hq
    refine ⟨_, rfl, x, _, dx, _, _, rfl, s13 _ _ S.obj, F.cl, F.na2, rfl, n, rfl, by omega, by omega, fun D2 nD2 => lc_range (lo := 0) (n := (n : Int).toNat) (fun i H4 => Same H3 H4 ∧ i ≤ n ∧ ∃ rs : List Int, rs.length = i ∧ (∀ r ∈ rs, 0 ≤ r ∧ r < ((n + 2 : Nat) : Int)) ∧ H4 D2 = some (.lst (rs.map V.int))) ⟨same_new nD2, by omega, [], rfl, fun r h => absurd h List.not_mem_nil, upd_same⟩ ?_ ?_⟩
    · rintro i H4 hi ⟨s4, h6, rs, f1, f2, h4⟩
      have step : ∀ z : Int, 0 ≤ z → z < ((n + 2 : Nat) : Int) → Same H3 (upd H4 D2 (.lst (rs.map V.int ++ [V.int z]))) ∧ i + 1 ≤ n ∧ ∃ rs' : List Int, rs'.length = i + 1 ∧ (∀ r ∈ rs', 0 ≤ r ∧ r < ((n + 2 : Nat) : Int)) ∧ upd H4 D2 (.lst (rs.map V.int ++ [V.int z])) D2 = some (.lst (rs'.map V.int)) := fun z z0 z1 => by
        refine ⟨s4.put nD2, by omega, rs ++ [z], by rw [List.length_append, f1]; rfl, fun r hr2 => ?_, by rw [upd_same, List.map_append]; rfl⟩
        rcases List.mem_append.mp hr2 with q1 | q1
        · exact f2 r q1
        · rw [List.mem_singleton.mp q1]; exact ⟨z0, z1⟩
      have hq4 := s4 _ _ hq3
      refine ⟨rfl, ?_⟩
      unfold tYes
      refine iteT ?_
      refine ⟨_, rfl, _, rfl, rfl, _, rfl, ite_b decide_eq_true_iff (fun _ => ?_) (fun _ => ?_)⟩
      · exact ⟨_, rfl, q, _, 0, _, rfl, rfl, SqL.of hq4, rfl, _, h4, small_line' (by rw [List.length_map]; omega), step n (by omega) (by omega)⟩
      · exact ⟨_, rfl, q, _, 1, _, rfl, rfl, SqL.of hq4, rfl, _, h4, small_line' (by rw [List.length_map]; omega), step ((n : Int) + 1) (by omega) (by omega)⟩
    · rintro H4 ⟨s4, _, rs, f1, f2, h4⟩
      refine ⟨_, rfl, D2, q, _, _, rfl, rfl, h4, s4 _ _ hq3, small_line (by rw [List.length_map]; show _ + 2 ≤ _; omega), fun p np => ?_⟩
      have s5 := (s13.trans s4).new (o := .lst (rs.map V.int ++ ([(n : Int), (n : Int) + 1] : List Int).map V.int)) np
      have s35 := s4.new (o := .lst (rs.map V.int ++ ([(n : Int), (n : Int) + 1] : List Int).map V.int)) np
      have hp : upd H4 p (.lst (rs.map V.int ++ ([(n : Int), (n : Int) + 1] : List Int).map V.int)) p = some (.lst ((rs ++ [(n : Int), (n : Int) + 1]).map V.int)) := by
        rw [upd_same, List.map_append]
      generalize upd H4 p (.lst (rs.map V.int ++ ([(n : Int), (n : Int) + 1] : List Int).map V.int)) = H5 at s5 s35 hp
      have hD5 := s35 _ _ h3
      refine ⟨_, rfl, _, rfl, D, _, rfl, DPut.k (k := .inr y) hD5 (small_line' (by have := S.few; omega)), ?_⟩
      have hHD : H D = none := s1.free nD1
      have s6 := s5.put (o := .dK (putK kv2 (.inr y) (.ref p))) hHD
      have hD6 : upd H5 D (.dK (putK kv2 (.inr y) (.ref p))) D = some (.dK (putK kv2 (.inr y) (.ref p))) := upd_same
      have hw6 : ∀ kv ∈ putK kv2 (.inr y) (.ref p), WayOk (upd H5 D (.dK (putK kv2 (.inr y) (.ref p)))) (n + 2) kv := fun kv hk => by
        rcases mem_putK hk with z | z
        · exact ((e3 kv z).mono s35).put hD5
        · rw [z]
          refine (way_new (n := n + 2) hp (by rw [List.length_append, f1]; show _ + 2 = _; omega) fun r hr2 => ?_).put hD5
          rcases List.mem_append.mp hr2 with q1 | q1
          · exact f2 r q1
          · rcases List.mem_cons.mp q1 with q1 | q1
            · omega
            · rw [List.mem_singleton.mp q1]; omega
      have hq6 : upd H5 D (.dK (putK kv2 (.inr y) (.ref p))) q = some (.lst (([(n : Int), (n : Int) + 1] : List Int).map V.int)) := by
        rw [upd_ne (fun e => by have := s35 _ _ hq3; rw [e, hD5] at this; cases this)]; exact s35 _ _ hq3
      generalize upd H5 D (.dK (putK kv2 (.inr y) (.ref p))) = H6 at s6 hD6 hw6 hq6
      refine ⟨_, rfl, _, rfl, x, _, dx, _, _, rfl, s6 _ _ S.obj, F.cl, F.na2, rfl, n, 2, rfl, rfl, _, rfl, x, _, dx, _, _, rfl, s6 _ _ S.obj, F.cl, F.na3, rfl, _, rfl, q, _, 0, _, rfl, rfl, SqL.of hq6, rfl, _, rfl, q, _, 1, _, rfl, rfl, SqL.of hq6, rfl, by show 2 ≤ sizeLine; decide, fun t nt f dx2 nf ndx hne => ?_⟩
      have s7 := same_new (o := .tup [V.int n, V.int ((n : Int) + 1)]) nt
      refine ⟨f, _, _, _, _, _, _, dx2, rfl, upd_same, rfl, fun H' sx ob => ?_⟩
      have sm := made_same nf ndx sx
      have e4 : ((n : Int) + 2) = ((n + 2 : Nat) : Int) := by omega
      refine ⟨rfl, k H' f (n + 2) ((s6.trans s7).trans sm) (by omega) (by omega) (sk_made nf ndx sm ob (s7 _ _ hD6) upd_same S.r0 (by have := S.r1; omega) (by omega) (by omega) (by omega) (by omega) (Nat.le_trans (length_putK _ _ _) (by have := S.few; omega)) fun kv hk => (hw6 kv hk).mono s7)⟩
end
end Tw
end
section
/-! text W14 -/
set_option maxHeartbeats 4000000
namespace Tw
open PySem PySem.Spec PyProof.Rows L2
/-- the row of first halves at ts -/
structure FhsAt (H : Hp) (ts : List Addr) (L : List (Str × List Str)) : Prop where
  len : ts.length = L.length
  at_ : ∀ (i : Nat) (t : Addr) (x : Str) (q : List Str), ts[i]? = some t → L[i]? = some (x, q) → ∃ l, H t = some (.tup [.str x, .ref l]) ∧ LS H l q
theorem FhsAt.mono {H H' : Hp} {ts : List Addr} {L : List (Str × List Str)} (r : FhsAt H ts L) (s : Same H H') : FhsAt H' ts L := ⟨r.len, fun i t x q a b => let ⟨l, c, d⟩ := r.at_ i t x q a b; ⟨l, s _ _ c, s _ _ d⟩⟩
/-- xs.index(e), xs[a:b], read the same in every block -/
theorem pe_indexB (K : PySem.W.Frag) {X : Cx} {o e : Expr} {to te : TE} {apos cpos : Pos} (ho : PE X o to) (ha : PE X e te) (hK : X.K = K := by rfl) (hs : starEach [e] X.env = (false, eval e X.env) :: starEach [] X.env := by rfl)
    (hbase : attributeBase o "index" X.env (eval o X.env) = eval o X.env := by rfl)
    (hfew : ((backTo cpos (starEach [e] X.env)).all (fun x => !x.1) && (backToKw cpos (keywordEach [] X.env)).all (fun x => x.1.isSome)
      && decide (([e] : List Expr).length + ([] : List Keyword).length + (if ([] : List Keyword).isEmpty then 0 else 1) < 30)) = true := by rfl)
    (hline : (apos.endLine == cpos.line) = true := by rfl) (hplain : (backTo cpos (starEach [] X.env)).any (·.1) = false := by rfl) :
    PE X (.Call (.Attribute o "index" apos) [e] [] cpos) (tBM K "list" (rIndex K) to (tCons te tNil)) := by
  subst hK
  exact pe_bm PySem.F.plainAttrs_list PySem.F.slot_list_index PySem.F.type_list_index mt_index ho (pa_cons ha pa_nil hs) hbase hfew hline hs hplain
theorem sl_listB (K : PySem.W.Frag) {X : Cx} (hK : X.K = K := by rfl) : SlR X (rSlL K) := by
  subst hK; exact sl_list
/-- a loop over zip of two lists -/
theorem for_zip {K : PySem.W.Frag} {a b : Addr} {xs ys : List V} {g : TG} {tb : TS} {D : Ends} {σ : L2.St} {H : Hp} (Pv : Nat → L2.St → Hp → Prop) (h0 : Pv 0 σ H) (hq : ∀ i σ H, Pv i σ H → SqL K H a xs ∧ SqL K H b ys)
    (hs : ∀ (i : Nat) (x y : V) (T : Addr) (σ : L2.St) (H : Hp), xs[i]? = some x → ys[i]? = some y → Pv i σ H → H T = none → g (.ref T) σ (upd H T (.tup [x, y])) fun σ2 H2 => tb { D with nx := Pv (i + 1), ct := Pv (i + 1), bk := D.nx } σ2 H2) (hd : ∀ σ H, Pv (min xs.length ys.length) σ H → D.nx σ H) :
    ∃ W : Nat → Nat → L2.St → Hp → Prop, (∃ m, W 0 m σ H) ∧ ∀ i m σ H, W i m σ H →
      ((Itz K a b).stop i H ∧ D.nx σ H) ∨ ((Itz K a b).go i H ∧ ∃ N : L2.St → Hp → Prop, (∀ σ' H', N σ' H' → ∃ m', m' < m ∧ W (i + 1) m' σ' H') ∧ ∀ v H', (Itz K a b).yld i H v H' → g v σ H' fun σ2 H2 => tb { D with nx := N, ct := N, bk := D.nx } σ2 H2) := by
  refine ⟨fun i m σ H => m = min xs.length ys.length - i ∧ i ≤ min xs.length ys.length ∧ Pv i σ H, ⟨_, rfl, Nat.zero_le _, h0⟩, ?_⟩
  rintro i m σ H ⟨rfl, hi, hp⟩
  obtain ⟨h1, h2⟩ := hq i σ H hp
  by_cases hlt : i < min xs.length ys.length
  · refine .inr ⟨⟨xs, ys, xs[i], ys[i], h1, h2, List.getElem?_eq_getElem (by omega), List.getElem?_eq_getElem (by omega)⟩, Pv (i + 1), fun σ' H' h' => ⟨min xs.length ys.length - (i + 1), by omega, rfl, hlt, h'⟩, ?_⟩
    rintro v H' ⟨T, x, y, rfl, hT, rfl, hx, hy⟩
    exact hs i x y T σ H (hx xs h1) (hy ys h2) hp hT
  · have e : i = min xs.length ys.length := by omega
    subst e
    exact .inl ⟨⟨xs, ys, h1, h2, by omega⟩, hd σ H hp⟩
section
variable {P : Program} {w : World} {K : PySem.W.Frag} {mg : Str → Option Value} {base : Heap}
def spFhs : Sp := fun vs H Q _ => ∃ (a : Addr) (ws : List Str), vs = [.ref a] ∧ LS H a ws ∧ CF 4 ws ∧ ∀ H' p ts, Same H H' → H p = none → H' p = some (.lst (ts.map V.ref)) → FhsAt H' ts (fhs ws) → Q (.ref p) H'
theorem ok_first_halves (T : TX K mg) : Cal P w K mg base 9 "first_halves" ["speech"] spFhs := by
  have Gb := ok_by_first (P := P) (w := w) (base := base) T
  have Gs := ok_shortest (P := P) (w := w) (base := base) T 4 (by decide)
  refine mk_cal (y := "first_halves") (st := s_first_halves) T 21 21 rfl rfl sc_first_halves (fun _ _ _ _ _ _ us hl => match us, hl with | [_], _ => rfl) (fun vs H Q E h => ?_) (fun cdv A outer s H vs Q E hr h => ?_)
  · obtain ⟨a, ws, rfl, _⟩ := h; rfl
  obtain ⟨a, ws, rfl, hA, ⟨hn, hf⟩, k⟩ := h
  refine ⟨_, pss_one (ps_ret (pe_lc (own := [("word", 1)]) rfl sc_first_halves.nd (pi_list (pc Gb (hr.mono (by omega)) (pa_cons (pv 0) pa_nil))) (blk (N := N_first_halves) (sc := defScope s_first_halves) (by decide +kernel)) (fun _ _ _ _ _ => pg_name (i := 1) sc_first_halves.nd rfl (.inl rfl)) (fun _ _ _ _ _ => pts_nil)
      (fun _ _ _ _ _ => pe_tup (pa_cons (pv 1) (pa_cons (pc Gs hr (pa_cons (pe_slice (sl_listB K) (pv 0) po_none (po_some (pe_indexB K (pv 0) (pv 1)))) pa_nil)) pa_nil))))), ?_⟩
  refine ⟨_, rfl, a, ws, rfl, hA, hn, fun H1 f s1 nf hF => ?_⟩
  have hA1 := s1 _ _ hA
  refine ⟨f, rfl, ⟨_, SqL.of hF⟩, fun D nD => lc_list (K := K) (a := f) (xs := (firsts ws).map V.str) (fun i H2 => Same H1 H2 ∧ i ≤ 1000 ∧ ∃ ts : List Addr, ts.length = i ∧ H2 D = some (.lst (ts.map V.ref)) ∧ FhsAt H2 ts ((fhs ws).take i)) ⟨same_new nD, by omega, [], rfl, upd_same, ⟨by simp, fun i t x q h => by simp at h⟩⟩ (fun i H2 _ h2 => SqL.of (h2.1 _ _ hF)) ?_ ?_⟩
  · rintro i v H2 hv ⟨s2, h6, ts, ht, h2, R⟩
    obtain ⟨x, hx, rfl⟩ := map_at hv
    have hi := (List.getElem?_eq_some_iff.mp hx).1
    have hil := firsts_len ws
    have hxw : x ∈ ws := (firsts_mem ws x).mp (List.mem_of_getElem? hx)
    obtain ⟨z, e1, e2⟩ := split_at hxw
    have hget := fhs_at hx
    have etk : ws.take (ws.take (ws.idxOf x)).length = ws.take (ws.idxOf x) := by
      generalize ws.take (ws.idxOf x) = p at e1
      rw [e1]; simp
    have mp : ∀ y ∈ ws.take (ws.idxOf x), y ∈ ws := fun y hy => List.mem_of_mem_take hy
    have lp : (ws.take (ws.idxOf x)).length ≤ ws.length := by rw [List.length_take]; omega
    generalize ws.take (ws.idxOf x) = p at e1 e2 hget etk mp lp
    obtain ⟨i1, i2⟩ := index_at e1 e2
    have hA2 := s2 _ _ hA1
    refine ⟨rfl, ?_⟩
    unfold tYes
    refine iteT ?_
    refine ⟨_, rfl, _, rfl, _, rfl, .inl ⟨rfl, _, SqL.of hA2⟩, _, rfl, a, _, .str x, p.length, .str x, rfl, rfl, SqL.of hA2, rfl, flat_strs _, i1, by rw [eqV_strs]; exact beq_self_eq_true _, i2, _, rfl, a, _, rfl, SqL.of hA2, fun q nq => ?_⟩
    rw [cut_take, etk]
    have s3 := same_new (o := .lst (p.map V.str)) nq
    refine ⟨q, p, rfl, upd_same, ⟨by omega, hf.sub mp⟩, fun H4 l s4 nl hl => ⟨by show 2 ≤ sizeLine; decide, fun t nt => ?_⟩⟩
    have s24 := s3.trans s4
    have h2D := s24 _ _ h2
    have s5 := s24.new (o := .tup [V.str x, V.ref l]) nt
    have h5D : upd H4 t (.tup [V.str x, V.ref l]) D = some (.lst (ts.map V.ref)) := same_new nt _ _ h2D
    have h5t : upd H4 t (.tup [V.str x, V.ref l]) t = some (.tup [V.str x, V.ref l]) := upd_same
    have h5l : LS (upd H4 t (.tup [V.str x, V.ref l])) l (short p) := same_new nt _ _ hl
    generalize upd H4 t (.tup [V.str x, V.ref l]) = H5 at s5 h5D h5t h5l
    have nDl : l ≠ D := fun e => by subst e; have := s3.free nl; rw [h2] at this; cases this
    refine ⟨ts.map V.ref, h5D, small_line' (by rw [List.length_map]; omega), (s2.trans s5).put nD, by omega, ts ++ [t], by rw [List.length_append, ht]; rfl, by rw [upd_same, List.map_append]; rfl, ?_⟩
    have R5 := R.mono s5
    refine ⟨by rw [List.length_append, List.length_singleton, List.length_take, ht, fhs_len]; omega, fun j t' y q' g1 g2 => ?_⟩
    have hj := (List.getElem?_eq_some_iff.mp g1).1
    rw [List.length_append, List.length_singleton] at hj
    by_cases c : j < i
    · rw [List.getElem?_append_left (by omega)] at g1
      rw [List.getElem?_take, if_pos (by omega)] at g2
      obtain ⟨l', g3, g4⟩ := R5.at_ j t' y q' g1 (by rw [List.getElem?_take, if_pos c]; exact g2)
      refine ⟨l', ?_, ?_⟩
      · rw [upd_ne (fun e => by subst e; rw [h5D] at g3; cases g3)]; exact g3
      · have : l' ≠ D := fun e => by
          subst e
          have g4 : H5 l' = some (.lst (q'.map V.str)) := g4
          rw [h5D] at g4
          have : ts.map V.ref = q'.map V.str := HO.lst.inj (Option.some.inj g4)
          cases ts with
          | nil => cases g1
          | cons _ _ =>
            cases q' with
            | nil => cases this
            | cons _ _ => cases this
        show upd _ _ _ _ = _
        rw [upd_ne this]; exact g4
    · have e : j = i := by omega
      subst e
      rw [List.getElem?_append_right (by omega), ht, Nat.sub_self] at g1
      rw [List.getElem?_take, if_pos (by omega), hget] at g2
      cases g1; cases g2
      refine ⟨l, ?_, ?_⟩
      · rw [upd_ne (fun e => by subst e; rw [h5D] at h5t; cases h5t)]; exact h5t
      · show upd _ _ _ _ = _
        rw [upd_ne nDl]; exact h5l
  · rintro H2 ⟨s2, _, ts, ht, h2, R⟩
    rw [List.length_map, ← fhs_len, List.take_length] at R
    exact k H2 D ts (s1.trans s2) (s1.free nD) h2 R
/-! ### a sketch of two unlike shortest speeches of the same words -/
theorem same_ahead {u v p q : List Str} {a : Str} (h1 : fh u = some (p, a)) (h2 : fh v = some (q, a)) (m : ∀ x, x ∈ u ↔ x ∈ v) : ∀ x, x ∈ p ↔ x ∈ q := fun x => by
  have a1 := fh_notin h1
  have a2 := fh_notin h2
  have b1 := fh_mem h1 x
  have b2 := fh_mem h2 x
  constructor
  · intro hx
    rcases b2.mp ((m x).mp (b1.mpr (.inr hx))) with e | e
    · subst e; exact absurd hx a1
    · exact e
  · intro hx
    rcases b1.mp ((m x).mpr (b2.mpr (.inr hx))) with e | e
    · subst e; exact absurd hx a2
    · exact e
theorem same_behind {u v p q : List Str} {a : Str} (h1 : lh u = some (a, p)) (h2 : lh v = some (a, q)) (m : ∀ x, x ∈ u ↔ x ∈ v) : ∀ x, x ∈ p ↔ x ∈ q := fun x => by
  have a1 := lh_notin h1
  have a2 := lh_notin h2
  have b1 := lh_mem h1 x
  have b2 := lh_mem h2 x
  constructor
  · intro hx
    rcases b2.mp ((m x).mp (b1.mpr (.inr hx))) with e | e
    · subst e; exact absurd hx a1
    · exact e
  · intro hx
    rcases b1.mp ((m x).mpr (b2.mpr (.inr hx))) with e | e
    · subst e; exact absurd hx a2
    · exact e
def spSd (K : PySem.W.Frag) (k : Nat) : Sp := fun vs H Q _ => ∃ (a b : Addr) (u v : List Str), vs = [.ref a, .ref b] ∧ LS H a u ∧ LS H b v ∧ short u = u ∧ short v = v ∧ u ≠ v ∧ (∀ x, x ∈ u ↔ x ∈ v) ∧ Few k u ∧ ∀ H' s n m, Same H H' → n ≤ 2 * k + 1 → m ≤ k + 1 → Sk K H' s n m → Q (.ref s) H'
theorem ok_sketched (T : TX K mg) : ∀ k, k ≤ 4 → Cal P w K mg base (4 + k) "sketched" ["one", "other"] (spSd K k)
  | 0, _ => by
    refine mk_cal (y := "sketched") (st := s_sketched) T 20 20 rfl rfl sc_sketched (fun _ _ _ _ _ _ us hl => match us, hl with | [_, _], _ => rfl) (fun vs H Q E h => ?_) (fun cdv A outer s H vs Q E hr h => ?_)
    · obtain ⟨a, b, u, v, rfl, _⟩ := h; rfl
    · obtain ⟨a, b, u, v, rfl, _, _, _, _, ne, m, f, _⟩ := h
      have e := f.zero
      subst e
      exact absurd (nil_of fun x => (m x).symm).symm ne
  | k + 1, hk => by
    have IH := ok_sketched T k (by omega)
    have Gf := ok_first_half (P := P) (w := w) (base := base) T
    have Gb := ok_last_half (P := P) (w := w) (base := base) T
    have G1 := ok_which_first (P := P) (w := w) (base := base) T
    have G2 := ok_which_last (P := P) (w := w) (base := base) T
    have G3 := ok_frozen (P := P) (w := w) (base := base) T
    have G4 := ok_sent_back (P := P) (w := w) (base := base) T
    refine mk_cal (y := "sketched") (st := s_sketched) T 20 20 rfl rfl sc_sketched (fun _ _ _ _ _ _ us hl => match us, hl with | [_, _], _ => rfl) (fun vs H Q E h => ?_) (fun cdv A outer s H vs Q E hr h => ?_)
    · obtain ⟨a, b, u, v, rfl, _⟩ := h; rfl
    obtain ⟨a, b, u, v, rfl, hA, hB, su, sv, ne, m, f, kk⟩ := h
    have hr := (show Room (4 + k) _ from hr)
    refine ⟨_, pss_cons (ps_asg (pc Gf (hr.mono (by omega)) (pa_cons (pv 0) pa_nil)) (pg_tup rfl (pgs_cons (pg_name (i := 2) sc_sketched.nd rfl (.inl rfl)) (pgs_cons (pg_name (i := 3) sc_sketched.nd rfl (.inl rfl)) pgs_nil))))
      (pss_cons (ps_asg (pc Gf (hr.mono (by omega)) (pa_cons (pv 1) pa_nil)) (pg_tup rfl (pgs_cons (pg_name (i := 4) sc_sketched.nd rfl (.inl rfl)) (pgs_cons (pg_name (i := 5) sc_sketched.nd rfl (.inl rfl)) pgs_nil))))
      (pss_cons (ps_if (pt_cmpR op_ne (pv 3) (pv 5) (nomark _)) (pss_one (ps_ret (pc G1 (hr.mono (by omega)) (pa_cons (pv 3) (pa_cons (pv 5) pa_nil))))) pss_nil)
      (pss_cons (ps_asg (pc Gb (hr.mono (by omega)) (pa_cons (pv 0) pa_nil)) (pg_tup rfl (pgs_cons (pg_name (i := 6) sc_sketched.nd rfl (.inl rfl)) (pgs_cons (pg_name (i := 7) sc_sketched.nd rfl (.inl rfl)) pgs_nil))))
      (pss_cons (ps_asg (pc Gb (hr.mono (by omega)) (pa_cons (pv 1) pa_nil)) (pg_tup rfl (pgs_cons (pg_name (i := 8) sc_sketched.nd rfl (.inl rfl)) (pgs_cons (pg_name (i := 9) sc_sketched.nd rfl (.inl rfl)) pgs_nil))))
      (pss_cons (ps_if (pt_cmpR op_ne (pv 6) (pv 8) (nomark _)) (pss_one (ps_ret (pc G2 (hr.mono (by omega)) (pa_cons (pv 6) (pa_cons (pv 8) pa_nil))))) pss_nil)
      (pss_cons (ps_if (pt_cmpR (op_neS hr.units0) (pv 2) (pv 4) (nomark _)) (pss_one (ps_ret (pc G3 (hr.mono (by omega)) (pa_cons (pc IH hr (pa_cons (pv 2) (pa_cons (pv 4) pa_nil))) (pa_cons (pv 3) pa_nil))))) pss_nil)
      (pss_one (ps_ret (pc G4 (hr.mono (by omega)) (pa_cons (pc IH hr (pa_cons (pv 7) (pa_cons (pv 9) pa_nil))) (pa_cons (pv 6) pa_nil))))))))))), ?_⟩
    have fv : Few (k + 1) v := f.sub fun x hx => (m x).mpr hx
    have hun : u ≠ [] := fun e => by subst e; exact ne (nil_of fun x => (m x).symm).symm
    have hvn : v ≠ [] := fun e => by subst e; exact ne (nil_of m)
    have lu : u.length ≤ 126 := by rw [← su]; exact short_le f (by omega)
    have lv : v.length ≤ 126 := by rw [← sv]; exact short_le fv (by omega)
    obtain ⟨p, x, b1, t1, e1, e2⟩ := halves hun
    obtain ⟨p', x', b2, t2, e3, e4⟩ := halves hvn
    refine ⟨_, rfl, a, u, p, x, rfl, hA, by unfold C1; omega, e1, fun H1 t q s1 nt nq ht hq => ?_⟩
    refine ⟨t, _, rfl, SqT.of ht, rfl, _, _, rfl, _, _, rfl, rfl, ?_⟩
    refine ⟨_, rfl, b, v, p', x', rfl, s1 _ _ hB, by unfold C1; omega, e3, fun H2 t' q' s2 nt' nq' ht' hq' => ?_⟩
    refine ⟨t', _, rfl, SqT.of ht', rfl, _, _, rfl, _, _, rfl, rfl, ?_⟩
    have s12 := s1.trans s2
    refine ⟨_, rfl, _, rfl, rfl, _, rfl, ?_⟩
    refine ite_b (p := x ≠ x') (by simp) (fun _ => ?_) (fun ex => ?_)
    · exact ⟨_, rfl, _, rfl, x, x', rfl, fun H3 s s3 hs => kk H3 s 3 2 (s12.trans s3) (by omega) (by omega) hs⟩
    have ex : x = x' := Decidable.byContradiction ex
    subst ex
    refine ⟨_, rfl, a, u, t1, b1, rfl, s12 _ _ hA, by unfold C1; omega, e2, fun H3 t3 q3 s3 nt3 nq3 ht3 hq3 => ?_⟩
    refine ⟨t3, _, rfl, SqT.of ht3, rfl, _, _, rfl, _, _, rfl, rfl, ?_⟩
    have s13 := s12.trans s3
    refine ⟨_, rfl, b, v, t2, b2, rfl, s13 _ _ hB, by unfold C1; omega, e4, fun H4 t4 q4 s4 nt4 nq4 ht4 hq4 => ?_⟩
    refine ⟨t4, _, rfl, SqT.of ht4, rfl, _, _, rfl, _, _, rfl, rfl, ?_⟩
    have s14 := s13.trans s4
    refine ⟨_, rfl, _, rfl, rfl, _, rfl, ?_⟩
    refine ite_b (p := b1 ≠ b2) (by simp) (fun _ => ?_) (fun ey => ?_)
    · exact ⟨_, rfl, _, rfl, b1, b2, rfl, fun H3 s s3 hs => kk H3 s 2 2 (s14.trans s3) (by omega) (by omega) hs⟩
    have ey : b1 = b2 := Decidable.byContradiction ey
    subst ey
    have sp : short p = p := by
      have := short_fh e1
      rw [su, e1] at this
      exact (congrArg Prod.fst (Option.some.inj this)).symm
    have sp' : short p' = p' := by
      have := short_fh e3
      rw [sv, e3] at this
      exact (congrArg Prod.fst (Option.some.inj this)).symm
    have st1 : short t1 = t1 := by
      have := short_lh e2
      rw [su, e2] at this
      exact (congrArg Prod.snd (Option.some.inj this)).symm
    have st2 : short t2 = t2 := by
      have := short_lh e4
      rw [sv, e4] at this
      exact (congrArg Prod.snd (Option.some.inj this)).symm
    have hq4' := s4 _ _ (s3 _ _ (s2 _ _ hq))
    have hq4'' := s4 _ _ (s3 _ _ hq')
    refine ⟨_, rfl, _, rfl, q, q', p, p', rfl, rfl, SqL.of hq4', SqL.of hq4'', _, rfl, ?_⟩
    refine ite_b (p := p ≠ p') (by simp) (fun np => ?_) (fun np => ?_)
    · refine ⟨_, rfl, _, rfl, q, q', p, p', rfl, hq4', hq4'', sp, sp', np, same_ahead e1 e3 m, f.fh e1, fun H5 s n mm s5 n1 n2 hs => ?_⟩
      refine ⟨_, rfl, s, x, n, mm, rfl, hs, by omega, by omega, fun H6 s' n' s6 g1 g2 hs' => kk H6 s' n' (mm + 1) ((s14.trans s5).trans s6) (by omega) (by omega) hs'⟩
    · have np : p = p' := Decidable.byContradiction np
      have nt : t1 ≠ t2 := fun e => ne (by
        have r1 := short_eq e1 e2
        have r2 := short_eq e3 e4
        rw [su, sp, st1] at r1
        rw [sv, sp', st2] at r2
        rw [r1, r2, np, e])
      refine ⟨_, rfl, _, rfl, q3, q4, t1, t2, rfl, s4 _ _ hq3, hq4, st1, st2, nt, same_behind e2 e4 m, f.lh e2, fun H5 s n mm s5 n1 n2 hs => ?_⟩
      refine ⟨_, rfl, s, b1, n, mm, rfl, hs, by omega, by omega, fun H6 s' s6 hs' => kk H6 s' n (mm + 1) ((s14.trans s5).trans s6) (by omega) (by omega) hs'⟩
end
end Tw
end
section
/-! text W15 -/
set_option maxHeartbeats 4000000
namespace Tw
open PySem PySem.Spec PyProof.Rows L2
section
variable {P : Program} {w : World} {K : PySem.W.Frag} {mg : Str → Option Value} {base : Heap}
def spEar : Sp := fun vs H Q _ => ∃ (a b : Addr) (u v : List Str), vs = [.ref a, .ref b] ∧ LS H a u ∧ LS H b v ∧ CJ u v ∧ Shut u v ∧ (∀ x ∈ u ++ v, WordOk x) ∧ ∀ H' t h r, Same H H' → H' t = some (.tup [.ref h, .int r]) → Q (.ref t) H'
theorem ok_shut_ear (T : TX K mg) : Cal P w K mg base 10 "shut_ear" ["one", "other"] spEar := by
  have F := T.sk
  have Gw := ok_words_of (P := P) (w := w) (base := base) T
  have Gf := ok_first_halves (P := P) (w := w) (base := base) T
  have G1 := ok_which_first (P := P) (w := w) (base := base) T
  have G3 := ok_frozen (P := P) (w := w) (base := base) T
  have Gs := ok_sketched (P := P) (w := w) (base := base) T 4 (by decide)
  have Gh := ok_Hs (P := P) (w := w) (base := base) T
  refine mk_cal (y := "shut_ear") (st := s_shut_ear) T 28 28 rfl rfl sc_shut_ear (fun _ _ _ _ _ _ us hl => match us, hl with | [_, _], _ => rfl) (fun vs H Q E h => ?_) (fun cdv A outer s H vs Q E hr h => ?_)
  · obtain ⟨a, b, u, v, rfl, _⟩ := h; rfl
  obtain ⟨a, b, u, v, rfl, hA, hB, c, sh, wok, k⟩ := h
  refine ⟨_, pss_cons (ps_set (i := 2) sc_shut_ear.nd rfl (.inl rfl) (pc Gw (hr.mono (by omega)) (pa_cons (pe_op op_cat (pv 0) (pv 1)) pa_nil)))
    (pss_cons (ps_for PassesOwn.never rfl (pi_zip rfl (T.free 61 rfl) (pa_cons (pc Gf hr (pa_cons (pv 0) pa_nil)) (pa_cons (pc Gf hr (pa_cons (pv 1) pa_nil)) pa_nil)))
        (pg_tup rfl (pgs_cons (pg_tup rfl (pgs_cons (pg_name (i := 3) sc_shut_ear.nd rfl (.inl rfl)) (pgs_cons (pg_name (i := 4) sc_shut_ear.nd rfl (.inl rfl)) pgs_nil))) (pgs_cons (pg_tup rfl (pgs_cons (pg_name (i := 5) sc_shut_ear.nd rfl (.inl rfl)) (pgs_cons (pg_name (i := 6) sc_shut_ear.nd rfl (.inl rfl)) pgs_nil))) pgs_nil)))
      (pss_cons (ps_if (pt_cmpR op_ne (pv 3) (pv 5) (nomark _))
          (pss_cons (ps_set (i := 7) sc_shut_ear.nd rfl (.inl rfl) (pc G1 (hr.mono (by omega)) (pa_cons (pv 5) (pa_cons (pv 3) pa_nil))))
          (pss_one (ps_ret (pe_tup (pa_cons (pm (pv 7) Gh (hr.mono (by omega)) (pa_cons (pv 2) pa_nil)) (pa_cons (pe_fld (pv 7) rfl) pa_nil)))))) pss_nil)
      (pss_one (ps_if (pt_cmpR (op_neS hr.units0) (pv 4) (pv 6) (nomark _))
          (pss_cons (ps_set (i := 7) sc_shut_ear.nd rfl (.inl rfl) (pc G3 (hr.mono (by omega)) (pa_cons (pc Gs (hr.mono (by omega)) (pa_cons (pv 4) (pa_cons (pv 6) pa_nil))) (pa_cons (pv 3) pa_nil))))
          (pss_one (ps_ret (pe_tup (pa_cons (pm (pv 7) Gh (hr.mono (by omega)) (pa_cons (pv 2) pa_nil)) (pa_cons (pe_fld (pv 7) rfl) pa_nil)))))) pss_nil))))
    pss_never), ?_⟩
  obtain ⟨cu, cv, cf⟩ := id c
  refine ⟨_, rfl, _, rfl, a, b, _, _, rfl, rfl, hA, hB, small_line (by rw [List.length_map, List.length_map]; omega), fun l nl => ?_⟩
  have s1 := same_new (o := .lst (u.map V.str ++ v.map V.str)) nl
  have hl : LS (upd H l (.lst (u.map V.str ++ v.map V.str))) l (u ++ v) := by
    show upd _ _ _ _ = _
    rw [upd_same, List.map_append]
  generalize upd H l (.lst (u.map V.str ++ v.map V.str)) = H1 at s1 hl
  refine ⟨l, u ++ v, rfl, hl, by unfold C1; rw [List.length_append]; omega, cf.mono (by decide), fun H2 p ys s2 np nd hm hp => ?_⟩
  have s12 := s1.trans s2
  obtain ⟨W, w1, w2⟩ := cf
  have hys : ys.length ≤ 4 := Nat.le_trans (nodup_len ys W nd fun x hx => w2 x ((hm x).mp hx)) w1
  have fu : Few 4 u := ⟨W, w1, fun x hx => w2 x (List.mem_append_left _ hx)⟩
  have fv : Few 4 v := ⟨W, w1, fun x hx => w2 x (List.mem_append_right _ hx)⟩
  have house : ∀ (H5 : Hp) (n : Nat), Same H2 H5 → (∃ x, x ∈ u) → 1 ≤ n → n ≤ 12 → LS H5 p ys ∧ HouseOk ys n := fun H5 n s5 ⟨x, hx⟩ n1 n2 => ⟨s5 _ _ hp, nd, by
    have := (hm x).mpr (List.mem_append_left _ hx)
    exact List.length_pos_of_mem this, by omega, n1, n2, fun y hy => wok y ((hm y).mp hy)⟩
  refine ⟨_, rfl, a, u, rfl, s12 _ _ hA, ⟨by omega, fu⟩, fun H3 f ts s3 nf hf Rf => ?_⟩
  have s13 := s12.trans s3
  refine ⟨_, rfl, b, v, rfl, s13 _ _ hB, ⟨by omega, fv⟩, fun H4 g us s4 ng hg Rg => ?_⟩
  have s14 := s13.trans s4
  have hf4 := s4 _ _ hf
  have Rf4 := Rf.mono s4
  refine ⟨f, g, _, _, rfl, SqL.of hf4, SqL.of hg, for_zip (K := K) (a := f) (b := g) (xs := ts.map V.ref) (ys := us.map V.ref) (fun i σ H5 => (∃ x1 x2 x3 x4 x5, σ = [some (.ref a), some (.ref b), some (.ref p), x1, x2, x3, x4, x5]) ∧ Same H4 H5 ∧ ∀ j, j < i → (fhs u)[j]? = (fhs v)[j]?)
    ⟨⟨none, none, none, none, none, rfl⟩, .refl _, fun j hj => by omega⟩ (fun i σ H5 h5 => ⟨SqL.of (h5.2.1 _ _ hf4), SqL.of (h5.2.1 _ _ hg)⟩) ?_ ?_⟩
  · rintro i vx vy T' σ H5 h1 h2 ⟨⟨x1, x2, x3, x4, x5, rfl⟩, s5, he⟩ nT
    obtain ⟨t, ht, rfl⟩ := map_at h1
    obtain ⟨t2, ht2, rfl⟩ := map_at h2
    have hi := (List.getElem?_eq_some_iff.mp ht).1
    have hi2 := (List.getElem?_eq_some_iff.mp ht2).1
    have l1 := Rf4.len
    have l2 := Rg.len
    obtain ⟨⟨x, q⟩, hx⟩ : ∃ z, (fhs u)[i]? = some z := ⟨(fhs u)[i]'(by omega), List.getElem?_eq_getElem _⟩
    obtain ⟨⟨y, q2⟩, hy⟩ : ∃ z, (fhs v)[i]? = some z := ⟨(fhs v)[i]'(by omega), List.getElem?_eq_getElem _⟩
    obtain ⟨m1, g1, g2⟩ := (Rf4.mono s5).at_ i t x q ht hx
    obtain ⟨m2, g3, g4⟩ := (Rg.mono s5).at_ i t2 y q2 ht2 hy
    obtain ⟨k1, k2, k3⟩ := fhs_sub hx
    obtain ⟨k4, k5, k6⟩ := fhs_sub hy
    have sT := same_new (o := .tup [V.ref t, V.ref t2]) nT
    have s6 := s5.trans sT
    have g1 := sT _ _ g1
    have g2 : LS _ m1 q := sT _ _ g2
    have g3 := sT _ _ g3
    have g4 : LS _ m2 q2 := sT _ _ g4
    refine ⟨T', _, rfl, SqT.of upd_same, rfl, _, _, rfl, ?_⟩
    refine ⟨t, _, rfl, SqT.of g1, rfl, _, _, rfl, _, _, rfl, rfl, _, _, rfl, t2, _, rfl, SqT.of g3, rfl, _, _, rfl, _, _, rfl, rfl, rfl, ?_⟩
    generalize upd H5 T' (.tup [V.ref t, V.ref t2]) = H6 at sT s6 g1 g2 g3 g4
    have s2_6 : Same H2 H6 := (s3.trans s4).trans s6
    refine ⟨_, rfl, _, rfl, rfl, _, rfl, ?_⟩
    refine ite_b (p := x ≠ y) (by simp) (fun _ => ?_) (fun exy => ?_)
    · refine ⟨_, rfl, _, rfl, y, x, rfl, fun H7 sk s7 hk => ?_⟩
      obtain ⟨h7, ok7⟩ := house H7 3 (s2_6.trans s7) ⟨x, k1⟩ (by omega) (by omega)
      obtain ⟨dx, d, e, r, ea, eb, st, kvs, S⟩ := id hk
      refine ⟨_, rfl, sk, dx, _, rfl, S.obj, rfl, _, rfl, sk, p, ys, 3, 2, rfl, hk, h7, ok7, fun H8 h s8 => ?_⟩
      refine ⟨_, rfl, sk, _, dx, _, _, rfl, s8 _ _ S.obj, F.cl, F.na3, rfl, by show 2 ≤ sizeLine; decide, fun t9 n9 => ?_⟩
      exact k _ t9 h r ((((s14.trans s6).trans s7).trans s8).new n9) upd_same
    have exy : x = y := Decidable.byContradiction exy
    subst exy
    refine ⟨_, rfl, _, rfl, m1, m2, q, q2, rfl, rfl, SqL.of g2, SqL.of g4, _, rfl, ?_⟩
    refine ite_b (p := q ≠ q2) (by simp) (fun nq => ?_) (fun nq => ?_)
    · refine ⟨_, rfl, _, rfl, m1, m2, q, q2, rfl, g2, g4, k3, k6, nq, rows_words hx hy he, fu.sub k2, fun H7 sk n m s7 n1 n2 hk => ?_⟩
      refine ⟨_, rfl, sk, x, n, m, rfl, hk, by omega, by omega, fun H8 sk2 n' s8 n3 n4 hk2 => ?_⟩
      obtain ⟨dx, d, e, r, ea, eb, st, kvs, S⟩ := id hk2
      obtain ⟨h8, ok8⟩ := house H8 n' ((s2_6.trans s7).trans s8) ⟨x, k1⟩ (by have := S.r0; have := S.r1; omega) (by omega)
      refine ⟨_, rfl, sk2, dx, _, rfl, S.obj, rfl, _, rfl, sk2, p, ys, n', m + 1, rfl, hk2, h8, ok8, fun H9 h s9 => ?_⟩
      refine ⟨_, rfl, sk2, _, dx, _, _, rfl, s9 _ _ S.obj, F.cl, F.na3, rfl, by show 2 ≤ sizeLine; decide, fun t9 n9 => ?_⟩
      exact k _ t9 h r (((((s14.trans s6).trans s7).trans s8).trans s9).new n9) upd_same
    · have nq : q = q2 := Decidable.byContradiction nq
      subst nq
      refine ⟨⟨_, _, _, _, _, rfl⟩, s6, fun j hj => ?_⟩
      by_cases e : j < i
      · exact he j e
      · have : j = i := by omega
        subst this
        rw [hx, hy]
  · rintro σ H5 ⟨_, _, he⟩
    refine (shut_rows sh fun j hj => he j ?_).elim
    rw [List.length_map, List.length_map, Rf4.len, Rg.len]
    exact hj
/-! ### door -/
/-- what a door tells -/
structure DoorAt (H : Hp) (t : Addr) (u v : List Str) : Prop where
  al : Sim u v → H t = some (.tup [.str "alike"])
  op : ¬ Sim u v → ¬ Shut u v → ∃ p r, H t = some (.tup [.str "open", .ref p]) ∧ LS H p r ∧ (On u v → Row 4 u v r) ∧ (¬ On u v → Row 4 v u r)
  sh : ¬ Sim u v → Shut u v → ∃ h r, H t = some (.tup [.str "shut", .ref h, .int r])
theorem DoorAt.mono {H H' : Hp} {t : Addr} {u v : List Str} (d : DoorAt H t u v) (s : Same H H') : DoorAt H' t u v :=
  ⟨fun h => s _ _ (d.al h), fun h1 h2 => let ⟨p, r, a, b, c⟩ := d.op h1 h2; ⟨p, r, s _ _ a, s _ _ b, c⟩, fun h1 h2 => let ⟨h, r, a⟩ := d.sh h1 h2; ⟨h, r, s _ _ a⟩⟩
def spDoor : Sp := fun vs H Q _ => ∃ (a b : Addr) (u v : List Str), vs = [.ref a, .ref b] ∧ LS H a u ∧ LS H b v ∧ CJ u v ∧ (∀ x ∈ u ++ v, WordOk x) ∧ (¬ Sim u v → ¬ Shut u v → ¬ ∀ x, x ∈ u ↔ x ∈ v) ∧ ∀ H' t, Same H H' → DoorAt H' t u v → Q (.ref t) H'
theorem ok_door_doors (T : TX K mg) : Cal P w K mg base 23 "door_doors" ["one", "other"] spDoor := by
  have Ga := ok_alike (P := P) (w := w) (base := base) T
  have Gs := ok_is_shut (P := P) (w := w) (base := base) T
  have Go := ok_open_row (P := P) (w := w) (base := base) T
  have Ge := ok_shut_ear (P := P) (w := w) (base := base) T
  refine mk_cal (y := "door") (st := s_door_doors) T 29 29 rfl rfl sc_door_doors (fun _ _ _ _ _ _ us hl => match us, hl with | [_, _], _ => rfl) (fun vs H Q E h => ?_) (fun cdv A outer s H vs Q E hr h => ?_)
  · obtain ⟨a, b, u, v, rfl, _⟩ := h; rfl
  obtain ⟨a, b, u, v, rfl, hA, hB, c, wok, hne, k⟩ := h
  refine ⟨_, pss_cons (ps_if (pt_val (pc Ga (hr.mono (by omega)) (pa_cons (pv 0) (pa_cons (pv 1) pa_nil)))) (pss_one (ps_ret (pe_tup (pa_cons pe_str pa_nil)))) pss_nil)
    (pss_cons (ps_if (pt_not (pt_val (pc Gs (hr.mono (by omega)) (pa_cons (pv 0) (pa_cons (pv 1) pa_nil))))) (pss_one (ps_ret (pe_tup (pa_cons pe_str (pa_cons (pc Go hr (pa_cons (pv 0) (pa_cons (pv 1) pa_nil))) pa_nil))))) pss_nil)
    (pss_cons (ps_asg (pc Ge (hr.mono (by omega)) (pa_cons (pv 0) (pa_cons (pv 1) pa_nil))) (pg_tup rfl (pgs_cons (pg_name (i := 2) sc_door_doors.nd rfl (.inl rfl)) (pgs_cons (pg_name (i := 3) sc_door_doors.nd rfl (.inl rfl)) pgs_nil))))
    (pss_one (ps_ret (pe_tup (pa_cons pe_str (pa_cons (pv 2) (pa_cons (pv 3) pa_nil)))))))), ?_⟩
  refine ⟨_, rfl, _, rfl, a, b, u, v, rfl, hA, hB, c.l, fun H1 s1 => ⟨_, rfl, ?_⟩⟩
  refine ite_b (p := Sim u v) decide_eq_true_iff (fun e1 => ?_) (fun e1 => ?_)
  · refine ⟨by show 1 ≤ sizeLine; decide, fun t nt => k _ t (s1.new nt) ⟨fun _ => upd_same, fun h => absurd e1 h, fun h => absurd e1 h⟩⟩
  refine ⟨_, rfl, _, rfl, a, b, u, v, rfl, s1 _ _ hA, s1 _ _ hB, c, fun H2 s2 => ⟨_, rfl, ?_⟩⟩
  have s12 := s1.trans s2
  refine ite_b (p := ¬ Shut u v) (by simp) (fun e2 => ?_) (fun e2 => ?_)
  · have hon : On u v ∨ On v u := by
      by_cases o1 : On u v
      · exact .inl o1
      · by_cases o2 : On v u
        · exact .inr o2
        · exact absurd ⟨o1, o2⟩ e2
    refine ⟨_, rfl, _, rfl, a, b, u, v, rfl, s12 _ _ hA, s12 _ _ hB, c, hne e1 e2, hon, fun H3 p r s3 np hp r1 r2 => ⟨by show 2 ≤ sizeLine; decide, fun t nt => ?_⟩⟩
    exact k _ t ((s12.trans s3).new nt) ⟨fun h => absurd h e1, fun _ _ => ⟨p, r, upd_same, same_new nt _ _ hp, r1, r2⟩, fun _ h => absurd h e2⟩
  · have e2 : Shut u v := Decidable.byContradiction e2
    refine ⟨_, rfl, _, rfl, a, b, u, v, rfl, s12 _ _ hA, s12 _ _ hB, c, e2, wok, fun H3 t h r s3 ht => ?_⟩
    refine ⟨t, _, rfl, SqT.of ht, rfl, _, _, rfl, _, _, rfl, rfl, ?_⟩
    refine ⟨_, rfl, _, rfl, by show 3 ≤ sizeLine; decide, fun t2 nt2 => ?_⟩
    exact k _ t2 ((s12.trans s3).new nt2) ⟨fun h => absurd h e1, fun _ h => absurd e2 h, fun _ _ => ⟨h, r, upd_same⟩⟩
end
end Tw
end
section
/-! text T1 -/
set_option maxHeartbeats 4000000
namespace Tw
open PySem PySem.Spec PyProof.Rows L2
/-- all but what stands at ch is as it was -/
def SL (ch : List Addr) (H H' : Hp) : Prop := ∀ b o, b ∉ ch → H b = some o → H' b = some o
theorem SL.refl (ch : List Addr) (H : Hp) : SL ch H H := fun _ _ _ h => h
theorem SL.trans {ch : List Addr} {H H1 H2 : Hp} (a : SL ch H H1) (b : SL ch H1 H2) : SL ch H H2 := fun c o n h => b c o n (a c o n h)
theorem SL.same {ch : List Addr} {H H1 H2 : Hp} (a : SL ch H H1) (b : Same H1 H2) : SL ch H H2 := fun c o n h => b c o (a c o n h)
theorem SL.of {ch : List Addr} {H H1 : Hp} (a : Same H H1) : SL ch H H1 := fun c o _ h => a c o h
theorem SL.new {ch : List Addr} {p : Addr} {o : HO} {H H1 : Hp} (a : SL ch H H1) (h : H1 p = none) : SL ch H (upd H1 p o) := a.same (same_new h)
theorem SL.set {ch : List Addr} {x : Addr} {o : HO} {H H1 : Hp} (a : SL ch H H1) (hx : x ∈ ch) : SL ch H (upd H1 x o) := fun c u n h => by
  rw [upd_ne (fun e : c = x => n (by rw [e]; exact hx))]; exact a c u n h
theorem SL.put {ch : List Addr} {p : Addr} {o : HO} {H H1 : Hp} (a : SL ch H H1) (h : H p = none) : SL ch H (upd H1 p o) := fun c u n e => by
  rw [upd_ne (ne_of_none e h)]; exact a c u n e
theorem SL.mono {ch ch' : List Addr} {H H1 : Hp} (a : SL ch H H1) (h : ∀ x ∈ ch, x ∈ ch') : SL ch' H H1 := fun c o n e => a c o (fun z => n (h c z)) e
/-- o.f as a target -/
def gFld (K : PySem.W.Frag) (ta : TE) (f : Str) : TG := fun v σ H Q => ta σ H fun x H1 => ∃ a C dx fs, x = .ref a ∧ H1 a = some (.ins C dx fs) ∧ Cls K C ∧ NoAttr K C f ∧ fs.length < 1000 ∧ Q σ (upd H1 a (.ins C dx (putF f v fs)))
theorem pg_fld {X : Cx} {o : Expr} {f : Str} {pos : Pos} {ta : TE} (ha : PE X o ta)
    (hs : ∀ v, assign (.Attribute o f pos) X.env v = (do
      let ov ← holding [v] (eval o X.env)
      standAt pos.atName
      holding [v, ov] (setAttr ov f v)
      release [v, ov] []) := by intro _; rfl) : PG X (.Attribute o f pos) (gFld X.K ta f) := by
  constructor
  intro pins s σ H v u Q I r h
  rw [hs]
  refine wpAny_bind (wpAny_holding (thn (ha.run pins s σ H _ I h) ?_))
  rintro ov s1 ⟨x, H1, I1, r1, a, C, dx, fs, rfl, ea, c, n, l, q⟩
  obtain rfl : ov = Value.ref a := r1
  refine wpAny_bind (wpAny_standAt (wpAny_bind (wpAny_holding (setattr_ok I1 ea c n l r fun s2 I2 => ?_))))
  exact wpAny_release ⟨σ, _, I2, q⟩
/-! ### a talk -/
abbrev tkF (v1 v2 v3 v4 : V) : List (Str × V) := [("spoken", v1), ("seats", v2), ("past", v3), ("coming", v4)]
/-- the seats at sd: names and since when -/
structure SeatsAt (H : Hp) (sd : Addr) (kvs : List (Key × V)) (L : List (Str × Nat)) : Prop where
  dict : H sd = some (.dK kvs)
  len : kvs.length = L.length
  at_ : ∀ (i : Nat) (x : Str) (n : Nat), L[i]? = some (x, n) → ∃ q dd, kvs[i]? = some (.inr x, .ref q) ∧ H q = some (.tup [.int n, .ref dd]) ∧ H dd = some (.tup [])
structure TkD (K : PySem.W.Frag) (H : Hp) (t pl : Addr) (said : List Str) (L : List (Str × Nat)) (N : Nat) (dx sp sd cl : Addr) (past : List V) (kvs : List (Key × V)) : Prop where
  obj : H t = some (.ins (He.ga K "Talk") dx (tkF (.ref sp) (.ref sd) (.ref pl) (.ref cl)))
  spk : LS H sp said
  pst : H pl = some (.lst past)
  few : past.length ≤ N
  seat : SeatsAt H sd kvs L
  ne : sp ≠ pl
  pr : ∀ v ∈ past, ∃ a, v = .ref a
def Tk (K : PySem.W.Frag) (H : Hp) (t pl : Addr) (said : List Str) (L : List (Str × Nat)) (N : Nat) : Prop := ∃ dx sp sd cl past kvs, TkD K H t pl said L N dx sp sd cl past kvs
def TkS (K : PySem.W.Frag) (H : Hp) (t pl sp : Addr) (said : List Str) (L : List (Str × Nat)) (N : Nat) : Prop := ∃ dx sd cl past kvs, TkD K H t pl said L N dx sp sd cl past kvs
theorem TkS.tk {K : PySem.W.Frag} {H : Hp} {t pl sp : Addr} {said : List Str} {L : List (Str × Nat)} {N : Nat} (h : TkS K H t pl sp said L N) : Tk K H t pl said L N := let ⟨dx, sd, cl, past, kvs, D⟩ := h; ⟨dx, sp, sd, cl, past, kvs, D⟩
theorem SeatsAt.mono {H H' : Hp} {sd : Addr} {kvs : List (Key × V)} {L : List (Str × Nat)} (h : SeatsAt H sd kvs L) (s : Same H H') : SeatsAt H' sd kvs L :=
  ⟨s _ _ h.dict, h.len, fun i x n e => let ⟨q, dd, a, b, c⟩ := h.at_ i x n e; ⟨q, dd, a, s _ _ b, s _ _ c⟩⟩
theorem Tk.mono {K : PySem.W.Frag} {H H' : Hp} {t pl : Addr} {said : List Str} {L : List (Str × Nat)} {N : Nat} (h : Tk K H t pl said L N) (s : Same H H') : Tk K H' t pl said L N :=
  let ⟨dx, sp, sd, cl, past, kvs, q⟩ := h
  ⟨dx, sp, sd, cl, past, kvs, ⟨s _ _ q.obj, s _ _ q.spk, s _ _ q.pst, q.few, q.seat.mono s, q.ne, q.pr⟩⟩
theorem TkS.mono {K : PySem.W.Frag} {H H' : Hp} {t pl sp : Addr} {said : List Str} {L : List (Str × Nat)} {N : Nat} (h : TkS K H t pl sp said L N) (s : Same H H') : TkS K H' t pl sp said L N :=
  let ⟨dx, sd, cl, past, kvs, q⟩ := h
  ⟨dx, sd, cl, past, kvs, ⟨s _ _ q.obj, s _ _ q.spk, s _ _ q.pst, q.few, q.seat.mono s, q.ne, q.pr⟩⟩
/-- what stays where only a talk's own two places change -/
theorem SeatsAt.sl {H H' : Hp} {t pl sd : Addr} {kvs : List (Key × V)} {L : List (Str × Nat)} {C dx : Addr} {fs : List (Str × V)} {past : List V} (h : SeatsAt H sd kvs L) (s : SL [t, pl] H H') (ht : H t = some (.ins C dx fs)) (hp : H pl = some (.lst past)) : SeatsAt H' sd kvs L := by
  have k : ∀ b o, H b = some o → (∀ C dx fs, o ≠ .ins C dx fs) → (∀ xs, o ≠ .lst xs) → H' b = some o := fun b o e n1 n2 => s b o (fun z => by
    rcases List.mem_cons.mp z with z | z
    · subst z; rw [ht] at e; cases e; exact n1 _ _ _ rfl
    · rw [List.mem_singleton.mp z] at e; rw [hp] at e; cases e; exact n2 _ rfl) e
  exact ⟨k _ _ h.dict (fun _ _ _ e => by cases e) (fun _ e => by cases e), h.len, fun i x n e => let ⟨q, dd, a, b, c⟩ := h.at_ i x n e; ⟨q, dd, a, k _ _ b (fun _ _ _ e => by cases e) (fun _ e => by cases e), k _ _ c (fun _ _ _ e => by cases e) (fun _ e => by cases e)⟩⟩
structure TkFacts (K : PySem.W.Frag) : Prop where
  cl : Cls K (He.ga K "Talk")
  na1 : NoAttr K (He.ga K "Talk") "spoken"
  na2 : NoAttr K (He.ga K "Talk") "seats"
  na3 : NoAttr K (He.ga K "Talk") "past"
  na4 : NoAttr K (He.ga K "Talk") "coming"
section
variable {P : Program} {w : World} {K : PySem.W.Frag} {mg : Str → Option Value} {base : Heap}
theorem TX.tk (T : TX K mg) : TkFacts K := ⟨He.cls_ok (T.d.fact 76 rfl), He.noat_ok (T.d.fact 85 rfl), He.noat_ok (T.d.fact 86 rfl), He.noat_ok (T.d.fact 87 rfl), He.noat_ok (T.d.fact 88 rfl)⟩
def spTkI (K : PySem.W.Frag) : Sp := fun vs H Q _ => ∃ x C dx, vs = [.ref x] ∧ H x = some (.ins C dx []) ∧ C = He.ga K "Talk" ∧ ∀ H' pl, SX x H H' → pl ≠ x → H pl = none → Tk K H' x pl [] [] 0 → Q .non H'
theorem ok_TkI (T : TX K mg) : CalN P w K mg base 1 "Talk" ["self"] (spTkI K) := by
  have F := T.tk
  refine mk_calN (q := "Talk.__init__") (st := s_Talk_init) T 48 77 47 rfl rfl rfl sc_Talk_init (fun _ _ _ _ _ _ us hl => match us, hl with | [_], _ => rfl) (fun vs H Q E h => ?_) (fun cdv A outer s H vs Q E hr h => ?_)
  · obtain ⟨x, C, dx, rfl, _⟩ := h; rfl
  obtain ⟨x, C, dx, rfl, hX, rfl, k⟩ := h
  refine ⟨_, pss_cons (ps_fld (pv 0) (pe_lst pa_nil) rfl) (pss_cons (ps_fld (pv 0) pe_dnewK rfl) (pss_cons (ps_fld (pv 0) (pe_lst pa_nil) rfl) (pss_one (ps_fld (pv 0) (pe_lst pa_nil) rfl)))), ?_⟩
  refine ⟨by decide, fun l1 n1 => ⟨_, rfl, x, _, dx, _, rfl, same_new n1 _ _ hX, F.cl, F.na1, by decide, ?_⟩⟩
  have s1 : SX x H (upd (upd H l1 (.lst [])) x (.ins (He.ga K "Talk") dx (putF "spoken" (.ref l1) []))) := ((SX.refl x H).new n1).set
  have x1 : upd (upd H l1 (.lst [])) x (.ins (He.ga K "Talk") dx (putF "spoken" (.ref l1) [])) x = some (.ins (He.ga K "Talk") dx (putF "spoken" (.ref l1) [])) := upd_same
  have hxl : l1 ≠ x := fun e => by subst e; rw [hX] at n1; cases n1
  have a1 : upd (upd H l1 (.lst [])) x (.ins (He.ga K "Talk") dx (putF "spoken" (.ref l1) [])) l1 = some (.lst []) := by rw [upd_ne hxl, upd_same]
  generalize upd (upd H l1 (.lst [])) x (.ins (He.ga K "Talk") dx (putF "spoken" (.ref l1) [])) = H1 at s1 x1 a1
  refine fun l2 n2 => ⟨_, rfl, x, _, dx, _, rfl, same_new n2 _ _ x1, F.cl, F.na2, by show 1 < 1000; decide, ?_⟩
  have hxl2 : l2 ≠ x := fun e => by subst e; rw [x1] at n2; cases n2
  have s2 : SX x H1 (upd (upd H1 l2 (.dK [])) x (.ins (He.ga K "Talk") dx (putF "seats" (.ref l2) (putF "spoken" (.ref l1) [])))) := ((SX.refl x H1).new n2).set
  have x2 : upd (upd H1 l2 (.dK [])) x (.ins (He.ga K "Talk") dx (putF "seats" (.ref l2) (putF "spoken" (.ref l1) []))) x = some (.ins (He.ga K "Talk") dx (putF "seats" (.ref l2) (putF "spoken" (.ref l1) []))) := upd_same
  have a2 : upd (upd H1 l2 (.dK [])) x (.ins (He.ga K "Talk") dx (putF "seats" (.ref l2) (putF "spoken" (.ref l1) []))) l2 = some (.dK []) := by rw [upd_ne hxl2, upd_same]
  have b1 := s2 _ _ hxl a1
  generalize upd (upd H1 l2 (.dK [])) x (.ins (He.ga K "Talk") dx (putF "seats" (.ref l2) (putF "spoken" (.ref l1) []))) = H2 at s2 x2 a2 b1
  refine ⟨by decide, fun l3 n3 => ⟨_, rfl, x, _, dx, _, rfl, same_new n3 _ _ x2, F.cl, F.na3, by show 2 < 1000; decide, ?_⟩⟩
  have hxl3 : l3 ≠ x := fun e => by subst e; rw [x2] at n3; cases n3
  have s3 : SX x H2 (upd (upd H2 l3 (.lst [])) x (.ins (He.ga K "Talk") dx (putF "past" (.ref l3) (putF "seats" (.ref l2) (putF "spoken" (.ref l1) []))))) := ((SX.refl x H2).new n3).set
  have x3 : upd (upd H2 l3 (.lst [])) x (.ins (He.ga K "Talk") dx (putF "past" (.ref l3) (putF "seats" (.ref l2) (putF "spoken" (.ref l1) [])))) x = some (.ins (He.ga K "Talk") dx (putF "past" (.ref l3) (putF "seats" (.ref l2) (putF "spoken" (.ref l1) [])))) := upd_same
  have a3 : upd (upd H2 l3 (.lst [])) x (.ins (He.ga K "Talk") dx (putF "past" (.ref l3) (putF "seats" (.ref l2) (putF "spoken" (.ref l1) [])))) l3 = some (.lst []) := by rw [upd_ne hxl3, upd_same]
  have c1 := s3 _ _ hxl b1
  have c2 := s3 _ _ hxl2 a2
  generalize upd (upd H2 l3 (.lst [])) x (.ins (He.ga K "Talk") dx (putF "past" (.ref l3) (putF "seats" (.ref l2) (putF "spoken" (.ref l1) [])))) = H3 at s3 x3 a3 c1 c2
  refine ⟨by decide, fun l4 n4 => ⟨_, rfl, x, _, dx, _, rfl, same_new n4 _ _ x3, F.cl, F.na4, by show 3 < 1000; decide, ?_⟩⟩
  have s4 : SX x H3 (upd (upd H3 l4 (.lst [])) x (.ins (He.ga K "Talk") dx (tkF (.ref l1) (.ref l2) (.ref l3) (.ref l4)))) := ((SX.refl x H3).new n4).set
  have f3 : H l3 = none := by
    cases z : H l3 with
    | none => rfl
    | some o => have := s2 _ _ hxl3 (s1 _ _ hxl3 z); rw [n3] at this; cases this
  refine k _ l3 (((s1.trans s2).trans s3).trans s4) hxl3 f3 ⟨dx, l1, l2, l4, [], [], ⟨upd_same, s4 _ _ hxl c1, s4 _ _ hxl3 a3, Nat.le_refl _, ⟨s4 _ _ hxl2 c2, rfl, fun i x n e => by simp at e⟩, fun e => by (rw [e, n3] at b1; cases b1), fun v hv => absurd hv List.not_mem_nil⟩⟩
def spBegin (K : PySem.W.Frag) : Sp := fun vs H Q _ => ∃ t pl sp' sd' said L N said' kvs' L', vs = [.ref t, .ref sp', .ref sd'] ∧ Tk K H t pl said L N ∧ N ≤ 1000 ∧ LS H sp' said' ∧ sp' ≠ pl ∧ SeatsAt H sd' kvs' L' ∧ ∀ H', SL [t, pl] H H' → TkS K H' t pl sp' said' L' (N + 1) → Q .non H'
theorem ok_begin (T : TX K mg) : CalM P w K mg base 1 "Talk" "begin" ["self", "spoken", "seats"] (spBegin K) := by
  have F := T.tk
  refine mk_calM (q := "Talk.begin") (st := s_Talk_begin) T 49 90 76 rfl rfl rfl sc_Talk_begin (fun _ _ _ _ _ _ us hl => match us, hl with | [_, _, _], _ => rfl) (fun vs H Q E h => ?_) (fun cdv A outer s H vs Q E hr h => ?_)
  · obtain ⟨t, pl, sp', sd', said, L, N, said', kvs', L', rfl, _⟩ := h; rfl
  obtain ⟨t, pl, sp', sd', said, L, N, said', kvs', L', rfl, ⟨dx, sp, sd, cl, past, kvs, D⟩, hN, hS, hne, hL, k⟩ := h
  refine ⟨_, pss_cons (ps_expr (pe_bm PySem.F.plainAttrs_list PySem.F.slot_list_append PySem.F.type_list_append mt_append (pe_fld (pv 0) rfl) (pa_cons (pe_tup (pa_cons (pe_fld (pv 0) rfl) (pa_cons (pe_fld (pv 0) rfl) pa_nil))) pa_nil)))
    (pss_cons (ps_fld (pv 0) (pe_lst pa_nil) rfl)
    (pss_one (ps_asg (pe_tup (pa_cons (pv 1) (pa_cons (pv 2) pa_nil))) (pg_tup rfl (pgs_cons (pg_fld (pv 0)) (pgs_cons (pg_fld (pv 0)) pgs_nil)))))), ?_⟩
  refine ⟨_, rfl, t, _, dx, _, _, rfl, D.obj, F.cl, F.na3, rfl, .inl ⟨rfl, _, SqL.of D.pst⟩, _, rfl, t, _, dx, _, _, rfl, D.obj, F.cl, F.na1, rfl, _, rfl, t, _, dx, _, _, rfl, D.obj, F.cl, F.na2, rfl, by show 2 ≤ sizeLine; decide, fun q nq => ?_⟩
  have s1 := same_new (o := .tup [V.ref sp, V.ref sd]) nq
  refine ⟨pl, past, _, rfl, rfl, s1 _ _ D.pst, small_line' (by have := D.few; omega), ?_⟩
  have s2 : SL [t, pl] H (upd (upd H q (.tup [V.ref sp, V.ref sd])) pl (.lst (past ++ [.ref q]))) := (SL.of s1).set (by simp)
  have hpl : upd (upd H q (.tup [V.ref sp, V.ref sd])) pl (.lst (past ++ [.ref q])) pl = some (.lst (past ++ [.ref q])) := upd_same
  have htp : t ≠ pl := fun e => by have := D.obj; rw [e, D.pst] at this; cases this
  have ht2 : upd (upd H q (.tup [V.ref sp, V.ref sd])) pl (.lst (past ++ [.ref q])) t = some (.ins (He.ga K "Talk") dx (tkF (.ref sp) (.ref sd) (.ref pl) (.ref cl))) := by rw [upd_ne htp]; exact s1 _ _ D.obj
  generalize upd (upd H q (.tup [V.ref sp, V.ref sd])) pl (.lst (past ++ [.ref q])) = H2 at s2 hpl ht2
  refine ⟨by decide, fun c nc => ⟨_, rfl, t, _, dx, _, rfl, same_new nc _ _ ht2, F.cl, F.na4, by show 4 < 1000; decide, ?_⟩⟩
  have s3 : SL [t, pl] H (upd (upd H2 c (.lst [])) t (.ins (He.ga K "Talk") dx (tkF (.ref sp) (.ref sd) (.ref pl) (.ref c)))) := (s2.new nc).set (by simp)
  have ht3 : upd (upd H2 c (.lst [])) t (.ins (He.ga K "Talk") dx (tkF (.ref sp) (.ref sd) (.ref pl) (.ref c))) t = some (.ins (He.ga K "Talk") dx (tkF (.ref sp) (.ref sd) (.ref pl) (.ref c))) := upd_same
  have hpl3 : upd (upd H2 c (.lst [])) t (.ins (He.ga K "Talk") dx (tkF (.ref sp) (.ref sd) (.ref pl) (.ref c))) pl = some (.lst (past ++ [.ref q])) := by rw [upd_ne htp.symm]; exact same_new nc _ _ hpl
  refine ⟨_, rfl, _, rfl, by show 2 ≤ sizeLine; decide, fun u nu => ?_⟩
  have s4 := s3.new (o := .tup [V.ref sp', V.ref sd']) nu
  have ht4 := same_new (o := .tup [V.ref sp', V.ref sd']) nu _ _ ht3
  have hpl4 := same_new (o := .tup [V.ref sp', V.ref sd']) nu _ _ hpl3
  refine ⟨u, _, rfl, SqT.of upd_same, rfl, _, _, rfl, ?_⟩
  refine ⟨_, rfl, t, _, dx, _, rfl, ht4, F.cl, F.na1, by show 4 < 1000; decide, _, _, rfl, _, rfl, t, _, dx, _, rfl, upd_same, F.cl, F.na2, by show 4 < 1000; decide, rfl, ?_⟩
  have s5 := (s4.set (x := t) (o := .ins (He.ga K "Talk") dx (tkF (.ref sp') (.ref sd) (.ref pl) (.ref c))) (by simp)).set (x := t) (o := .ins (He.ga K "Talk") dx (tkF (.ref sp') (.ref sd') (.ref pl) (.ref c))) (by simp)
  refine k _ s5 ⟨dx, sd', c, past ++ [.ref q], kvs', ⟨upd_same, ?_, ?_, by rw [List.length_append]; have := D.few; show _ + 1 ≤ _; omega, hL.sl s5 D.obj D.pst, hne, fun v hv => (List.mem_append.mp hv).elim (D.pr v) fun z => ⟨_, List.mem_singleton.mp z⟩⟩⟩
  · have hts : sp' ≠ t := fun e => by subst e; have := D.obj; rw [hS] at this; cases this
    exact s5 _ _ (by simp [hts, hne]) hS
  · rw [upd_ne htp.symm, upd_ne htp.symm]; exact hpl4
end
end Tw
end
section
/-! text S9 -/
set_option maxHeartbeats 4000000
namespace Tw
open PySem PySem.Spec PyProof.Rows L2
section
variable {prog : Program} {w : World} {A : Around} {E : Value → Shared → Prop} {s : Shared}
/-- sorted(()) -/
theorem sorted0 {a : Addr} {Q : Value → Shared → Prop} (R : IsTup s.heap a #[])
    (hQ : ∀ (h1 : Heap) s' p (c : Nat), (∀ b o, s.heap.get? b = some o → h1.get? b = some o) → (∀ b o, h1.get? b = some o → s'.heap.get? b = some o) → s'.gens = s.gens → s'.os = s.os → h1.objs.size ≤ p →
      s'.heap.get? p = some (seqObj "list" #[] c) → Q (.ref p) s') : wpAny (model prog w) A (call (.builtin "sorted") [.ref a]) Q E s := by
  obtain ⟨o, ho, hc, n, hd⟩ := R
  refine Calls.call_function_entry kind_sorted plain_sorted entry_sorted (args_sorted1 _) ?_
  unfold Builtin.«sorted»
  refine wpAny_bind (m := checkCount "sorted" 1 1 _) (wpAny_pure ?_)
  refine wpAny_bind (wpAny_collect_seq a (.inr rfl) ho hc hd (fun h' k1 => ?_) (by simp))
  refine wpAny_bind (wpAny_newList ?_ (by simp))
  have hoL : (h'.push (seqObj "list" ([] : List Value).toArray 0)).get? h'.objs.size = some (seqObj "list" ([] : List Value).toArray 0) := Heap.get?_push_size _ rfl
  have hS : StrsAre ([] : List Value) [] := .nil
  refine wpAny_bind (wpAny_holding (wpAny_call_entry slot_list_sort ⟨_, hoL, rfl⟩ entry_list_sort (list_sort_treeK strKind_oneLt hoL hS.keysOf (fun v₁ v₂ rest e => by cases e) (by simp) fun st' hp hs => ⟨_, rfl, ?_⟩) (args_list_sort _)))
  obtain ⟨ys, a1, a2, a3⟩ := sorted_out_str hS hp hs
  obtain ⟨c, hc2⟩ := sortedHeap_at (vs := ([] : List Value)) (out := (arrOf st').map (·.2)) hoL
  have e1 : ys = [] := List.Perm.eq_nil a2
  subst e1
  have e2 : ((arrOf st').map (·.2)).toList = [] := by
    generalize ((arrOf st').map (·.2)).toList = z at a1
    cases a1
    rfl
  have e3 : (arrOf st').map (·.2) = #[] := by
    apply Array.ext'
    rw [e2]
  rw [e3] at hc2
  refine wpAny_pure ⟨_, rfl, hQ h' _ h'.objs.size c k1 (fun b u q => ?_) rfl rfl (Nat.le_refl _) (by rw [e3]; exact hc2)⟩
  have hlt := Heap.lt_size q
  show (sortedHeap (h'.push (seqObj "list" ([] : List Value).toArray 0)) h'.objs.size [] ((arrOf st').map (·.2))).get? b = some u
  rw [sortedHeap_old (Nat.ne_of_lt hlt) (by rw [size_push']; exact Nat.lt_succ_of_lt hlt)]
  exact Heap.get?_push_of_some _ q
end
section
variable {X : Cx}
/-- sorted(()) -/
def rSort0 (K : PySem.W.Frag) : List V → Hp → VK → Prop := fun vs H Q => ∃ (a : Addr), vs = [.ref a] ∧ SqT K H a [] ∧ ∀ (p : Addr), H p = none → Q (.ref p) (upd H p (.lst []))
theorem cr_sort0 : CallR X (.builtin "sorted") (rSort0 X.K) := by
  intro pins s σ H vs us Q I r h
  obtain ⟨a, rfl, ha, q⟩ := h
  rw [Vals.ref1 r]
  obtain ⟨its, rv, hT, _⟩ := I.tuple ha
  have e0 := Vals.zero rv
  subst e0
  refine sorted0 hT fun h1 s' p c k1 k2 g o hp hg => ?_
  have I1 : Inv X pins σ H { s with heap := h1 } := I.kept (t' := s.toks) k1
  have hf : H p = none := I1.hok.fresh hp
  have J : Inv X pins σ (upd H p (.lst [])) { s with heap := s'.heap, gens := s'.gens, drawn := s'.drawn, toks := s'.toks } :=
    Inv.call (s := { s with heap := h1 }) (ch := []) I1 (Un.laid k2 hp hf) (I1.hok.laid k2 hp ⟨by decide, [], c, .nil, hg⟩) (by rw [g]; exact I.bare) (fun _ z => nomatch z)
  have e : s' = { s with heap := s'.heap, gens := s'.gens, drawn := s'.drawn, toks := s'.toks } := by
    cases s'; cases s; cases o; rfl
  rw [e]
  exact ⟨.ref p, _, J, rfl, q p hf⟩
end
end Tw
end
section
/-! text T2 -/
set_option maxHeartbeats 4000000
namespace Tw
open PySem PySem.Spec PyProof.Rows L2
/-- a piece in the middle of a list of texts -/
theorem cut_mid {α : Type} (f : α → V) (ws : List α) (i j : Nat) : cutV (ws.map f) (some (i : Int)) (some (j : Int)) = ((ws.take j).drop i).map f := by
  unfold cutV
  rw [HT.sIx_nat, HT.sIx_nat, List.length_map, List.map_drop, List.map_take, List.drop_take]
  by_cases h1 : i ≤ ws.length
  · rw [Nat.min_eq_left h1]
    by_cases h2 : j ≤ ws.length
    · rw [Nat.min_eq_left h2]
    · rw [Nat.min_eq_right (by omega), List.take_of_length_le (by rw [List.length_drop, List.length_map]; exact Nat.le_refl _), List.take_of_length_le (by rw [List.length_drop, List.length_map]; omega)]
  · have e1 : (ws.map f).drop ws.length = [] := List.drop_of_length_le (by rw [List.length_map]; exact Nat.le_refl _)
    have e2 : (ws.map f).drop i = [] := List.drop_of_length_le (by rw [List.length_map]; omega)
    rw [Nat.min_eq_right (show ws.length ≤ i by omega), e1, e2, List.take_nil, List.take_nil]
/-- who listens, and since when -/
theorem seat_val {H : Hp} {sd : Addr} {kvs : List (Key × V)} {L : List (Str × Nat)} {x : Str} {n : Nat} (S : SeatsAt H sd kvs L) (nd : (L.map Prod.fst).Nodup) (h : (x, n) ∈ L) :
    ∃ q dd, valV kvs (.inr x) = some (.ref q) ∧ H q = some (.tup [.int n, .ref dd]) ∧ H dd = some (.tup []) := by
  obtain ⟨i, hi⟩ := List.getElem?_of_mem h
  obtain ⟨q, dd, h1, h2, h3⟩ := S.at_ i x n hi
  have hin : ((.inr x, .ref q) : Key × V) ∈ kvs := List.mem_of_getElem? h1
  cases hv : valV kvs (.inr x) with
  | none =>
    exfalso
    unfold valV at hv
    have hf : (kvs.find? fun kv => decide (kv.1 = Sum.inr x)) = none := by
      cases z : kvs.find? fun kv => decide (kv.1 = Sum.inr x) with
      | none => rfl
      | some _ => rw [z] at hv; cases hv
    have := List.find?_eq_none.mp hf _ hin
    simp at this
  | some v =>
    obtain ⟨kv, hk, e⟩ := valV_mem hv
    obtain ⟨j, hj⟩ := List.getElem?_of_mem hk
    have hjl : j < L.length := by rw [← S.len]; exact (List.getElem?_eq_some_iff.mp hj).1
    obtain ⟨⟨y, m⟩, hy⟩ : ∃ z, L[j]? = some z := ⟨L[j], List.getElem?_eq_getElem hjl⟩
    obtain ⟨q', dd', g1, g2, g3⟩ := S.at_ j y m hy
    rw [hj, e] at g1
    have e2 : (Sum.inr x : Key) = .inr y := congrArg Prod.fst (Option.some.inj g1)
    have e3 : x = y := Sum.inr.inj e2
    have e4 : v = .ref q' := congrArg Prod.snd (Option.some.inj g1)
    subst e3
    have hij : i = j := by
      have a1 : (L.map Prod.fst)[i]? = some x := by rw [List.getElem?_map, hi]; rfl
      have a2 : (L.map Prod.fst)[j]? = some x := by rw [List.getElem?_map, hy]; rfl
      obtain ⟨b1, c1⟩ := List.getElem?_eq_some_iff.mp a1
      obtain ⟨b2, c2⟩ := List.getElem?_eq_some_iff.mp a2
      exact (List.getElem_inj nd).mp (c1.trans c2.symm)
    subst hij
    rw [hi] at hy
    cases hy
    exact ⟨q', dd', by rw [e4], g2, g3⟩
theorem seat_none {H : Hp} {sd : Addr} {kvs : List (Key × V)} {L : List (Str × Nat)} {x : Str} (S : SeatsAt H sd kvs L) (h : x ∉ L.map Prod.fst) : valV kvs (.inr x) = none := by
  cases hv : valV kvs (.inr x) with
  | none => rfl
  | some v =>
    exfalso
    obtain ⟨kv, hk, e⟩ := valV_mem hv
    obtain ⟨j, hj⟩ := List.getElem?_of_mem hk
    have hjl : j < L.length := by rw [← S.len]; exact (List.getElem?_eq_some_iff.mp hj).1
    obtain ⟨⟨y, m⟩, hy⟩ : ∃ z, L[j]? = some z := ⟨L[j], List.getElem?_eq_getElem hjl⟩
    obtain ⟨q', dd', g1, g2, g3⟩ := S.at_ j y m hy
    rw [hj, e] at g1
    have e2 : (Sum.inr x : Key) = .inr y := congrArg Prod.fst (Option.some.inj g1)
    have e3 : x = y := Sum.inr.inj e2
    subst e3
    exact h (List.mem_map.mpr ⟨(x, m), List.mem_of_getElem? hy, rfl⟩)
abbrev Names (L : List (Str × Nat)) : Prop := (L.map Prod.fst).Nodup
section
variable {P : Program} {w : World} {K : PySem.W.Frag} {mg : Str → Option Value} {base : Heap}
def spNl (K : PySem.W.Frag) : Sp := fun vs H Q _ => ∃ t pl said L N x n, vs = [.ref t, .str x] ∧ Tk K H t pl said L N ∧ Names L ∧ (x, n) ∈ L ∧ Q .non H
theorem ok_need_listener (T : TX K mg) : CalM P w K mg base 1 "Talk" "need_listener" ["self", "name"] (spNl K) := by
  have F := T.tk
  refine mk_calM (q := "Talk.need_listener") (st := s_Talk_need_listener) T 50 91 76 rfl rfl rfl sc_Talk_need_listener (fun _ _ _ _ _ _ us hl => match us, hl with | [_, _], _ => rfl) (fun vs H Q E h => ?_) (fun cdv A outer s H vs Q E hr h => ?_)
  · obtain ⟨t, pl, said, L, N, x, n, rfl, _⟩ := h; rfl
  obtain ⟨t, pl, said, L, N, x, n, rfl, ⟨dx, sp, sd, cl, past, kvs, D⟩, nd, hx, k⟩ := h
  refine ⟨_, pss_one (ps_if (pt_cmp (pc_dnotin (hu_of hr) (pv 1) (pe_fld (pv 0) rfl)) (by rfl)) pss_never pss_nil), ?_⟩
  obtain ⟨q, dd, h1, h2, h3⟩ := seat_val D.seat nd hx
  refine ⟨_, rfl, _, rfl, t, _, dx, _, _, rfl, D.obj, F.cl, F.na2, rfl, sd, _, rfl, DGet.k (k := .inr x) D.seat.dict, _, rfl, iteFb (by rw [h1]; rfl) k⟩
def spSaid (K : PySem.W.Frag) : Sp := fun vs H Q _ => ∃ t pl said L N, vs = [.ref t] ∧ Tk K H t pl said L N ∧ ∀ H' p, Same H H' → H p = none → LS H' p said → Q (.ref p) H'
theorem ok_said (T : TX K mg) : CalM P w K mg base 1 "Talk" "said" ["self"] (spSaid K) := by
  have F := T.tk
  refine mk_calM (q := "Talk.said") (st := s_Talk_said) T 54 95 76 rfl rfl rfl sc_Talk_said (fun _ _ _ _ _ _ us hl => match us, hl with | [_], _ => rfl) (fun vs H Q E h => ?_) (fun cdv A outer s H vs Q E hr h => ?_)
  · obtain ⟨t, pl, said, L, N, rfl, _⟩ := h; rfl
  obtain ⟨t, pl, said, L, N, rfl, ⟨dx, sp, sd, cl, past, kvs, D⟩, k⟩ := h
  refine ⟨_, pss_one (ps_ret (pe_callTy call_list_of rfl (T.free 54 rfl) bo_list (pa_cons (pe_fld (pv 0) rfl) pa_nil))), ?_⟩
  exact ⟨_, rfl, t, _, dx, _, _, rfl, D.obj, F.cl, F.na1, rfl, sp, _, rfl, .inl (SqL.of D.spk), fun l nl => k _ l (same_new nl) nl upd_same⟩
def spHo (K : PySem.W.Frag) : Sp := fun vs H Q _ => ∃ t pl said L N x n, ∃ m : Nat, vs = [.ref t, .str x, .int m] ∧ Tk K H t pl said L N ∧ Names L ∧ (x, n) ∈ L ∧ said.length ≤ 1000 ∧ ∀ H' p, Same H H' → H p = none → LS H' p ((said.take m).drop n) → Q (.ref p) H'
theorem ok_heard_of (T : TX K mg) : CalM P w K mg base 2 "Talk" "heard_of" ["self", "name", "many"] (spHo K) := by
  have F := T.tk
  have Gw := ok_without (P := P) (w := w) (base := base) T
  refine mk_calM (q := "Talk.heard_of") (st := s_Talk_heard_of) T 55 96 76 rfl rfl rfl sc_Talk_heard_of (fun _ _ _ _ _ _ us hl => match us, hl with | [_, _, _], _ => rfl) (fun vs H Q E h => ?_) (fun cdv A outer s H vs Q E hr h => ?_)
  · obtain ⟨t, pl, said, L, N, x, n, m, rfl, _⟩ := h; rfl
  obtain ⟨t, pl, said, L, N, x, n, m, rfl, ⟨dx, sp, sd, cl, past, kvs, D⟩, nd, hx, hl, k⟩ := h
  refine ⟨_, pss_cons (ps_asg (pe_dget (hu_of hr) (pe_fld (pv 0) rfl) (pv 1) (fun _ _ => rfl)) (pg_tup rfl (pgs_cons (pg_name (i := 3) sc_Talk_heard_of.nd rfl (.inl rfl)) (pgs_cons (pg_name (i := 4) sc_Talk_heard_of.nd rfl (.inl rfl)) pgs_nil))))
    (pss_one (ps_ret (pc Gw hr (pa_cons (pe_slice sl_list (pe_fld (pv 0) rfl) (po_some (pv 3)) (po_some (pv 2))) (pa_cons (pv 4) pa_nil))))), ?_⟩
  obtain ⟨q, dd, h1, h2, h3⟩ := seat_val D.seat nd hx
  refine ⟨_, rfl, t, _, dx, _, _, rfl, D.obj, F.cl, F.na2, rfl, _, rfl, sd, .ref q, rfl, ?_, ?_⟩
  · have g := DGet.k (k := .inr x) D.seat.dict
    rw [h1] at g
    exact g
  refine ⟨q, _, rfl, SqT.of h2, rfl, _, _, rfl, _, _, rfl, rfl, ?_⟩
  refine ⟨_, rfl, t, _, dx, _, _, rfl, D.obj, F.cl, F.na1, rfl, _, rfl, n, rfl, _, rfl, m, rfl, sp, _, rfl, SqL.of D.spk, fun p np => ?_⟩
  rw [cut_mid]
  refine ⟨_, rfl, p, dd, (said.take m).drop n, rfl, upd_same, same_new np _ _ h3, ?_, fun H' r s2 nr hr2 => k H' r ((same_new np).trans s2) ((same_new np).free nr) hr2⟩
  rw [List.length_drop, List.length_take]; omega
def spHd (K : PySem.W.Frag) : Sp := fun vs H Q _ => ∃ t pl said L N x n, vs = [.ref t, .str x] ∧ Tk K H t pl said L N ∧ Names L ∧ (x, n) ∈ L ∧ WordOk x ∧ said.length ≤ 1000 ∧ Few 4 said ∧ ∀ H' p, Same H H' → H p = none → LS H' p (short (said.drop n)) → Q (.ref p) H'
theorem ok_heard (T : TX K mg) : CalM P w K mg base 9 "Talk" "heard" ["self", "name"] (spHd K) := by
  have F := T.tk
  have Gw := ok_is_word (P := P) (w := w) (base := base) T
  have Gn := ok_need (P := P) (w := w) (base := base) T
  have Gl := ok_need_listener (P := P) (w := w) (base := base) T
  have Gh := ok_heard_of (P := P) (w := w) (base := base) T
  have Gs := ok_shortest (P := P) (w := w) (base := base) T 4 (by decide)
  refine mk_calM (q := "Talk.heard") (st := s_Talk_heard) T 56 97 76 rfl rfl rfl sc_Talk_heard (fun _ _ _ _ _ _ us hl => match us, hl with | [_, _], _ => rfl) (fun vs H Q E h => ?_) (fun cdv A outer s H vs Q E hr h => ?_)
  · obtain ⟨t, pl, said, L, N, x, n, rfl, _⟩ := h; rfl
  obtain ⟨t, pl, said, L, N, x, n, rfl, tk, nd, hx, wx, hl, f4, k⟩ := h
  refine ⟨_, pss_cons (ps_expr (pc Gn (hr.mono (by omega)) (pa_cons (pe_lst (pa_cons (pc Gw (hr.mono (by omega)) (pa_cons (pv 1) pa_nil)) pa_nil)) pa_nil)))
    (pss_cons (ps_expr (pm (pv 0) Gl (hr.mono (by omega)) (pa_cons (pv 1) pa_nil)))
    (pss_one (ps_ret (pc Gs hr (pa_cons (pm (pv 0) Gh (hr.mono (by omega)) (pa_cons (pv 1) (pa_cons (plen T (pe_fld (pv 0) rfl)) pa_nil))) pa_nil))))), ?_⟩
  refine ⟨_, rfl, x, rfl, wx, fun H1 s1 => ⟨by show 1 ≤ sizeLine; decide, fun q nq => ⟨q, 1, rfl, upd_same, fun H2 s2 => ?_⟩⟩⟩
  have s12 := (s1.new (o := .lst [V.bl true]) nq).trans s2
  have tk2 := tk.mono s12
  obtain ⟨dx, sp, sd, cl, past, kvs, D⟩ := id tk2
  refine ⟨_, rfl, t, dx, _, rfl, D.obj, rfl, _, rfl, t, pl, said, L, N, x, n, rfl, tk2, nd, hx, ?_⟩
  refine ⟨_, rfl, t, dx, _, rfl, D.obj, rfl, _, rfl, _, rfl, t, _, dx, _, _, rfl, D.obj, F.cl, F.na1, rfl, sp, _, rfl, .inl (SqL.of D.spk), ?_⟩
  refine ⟨t, pl, said, L, N, x, n, said.length, by show _ = _; rw [List.length_map]; rfl, tk2, nd, hx, hl, fun H3 p s3 np hp => ?_⟩
  rw [List.take_length] at hp
  refine ⟨p, said.drop n, rfl, hp, ⟨by rw [List.length_drop]; omega, f4.sub fun y hy => List.mem_of_mem_drop hy⟩, fun H4 r s4 nr hr4 => k H4 r ((s12.trans s3).trans s4) ((s12.trans s3).free nr) hr4⟩
def spNb (K : PySem.W.Frag) : Sp := fun vs H Q _ => ∃ t pl said L N x n y m, vs = [.ref t, .str x, .str y] ∧ Tk K H t pl said L N ∧ Names L ∧ (x, n) ∈ L ∧ (y, m) ∈ L ∧ WordOk x ∧ WordOk y ∧ ∀ H', Same H H' → Q .non H'
theorem ok_need_both (T : TX K mg) : CalM P w K mg base 2 "Talk" "need_both" ["self", "name", "other"] (spNb K) := by
  have F := T.tk
  have Gw := ok_is_word (P := P) (w := w) (base := base) T
  have Gn := ok_need (P := P) (w := w) (base := base) T
  have Gl := ok_need_listener (P := P) (w := w) (base := base) T
  refine mk_calM (q := "Talk.need_both") (st := s_Talk_need_both) T 58 99 76 rfl rfl rfl sc_Talk_need_both (fun _ _ _ _ _ _ us hl => match us, hl with | [_, _, _], _ => rfl) (fun vs H Q E h => ?_) (fun cdv A outer s H vs Q E hr h => ?_)
  · obtain ⟨t, pl, said, L, N, x, n, y, m, rfl, _⟩ := h; rfl
  obtain ⟨t, pl, said, L, N, x, n, y, m, rfl, tk, nd, hx, hy, wx, wy, k⟩ := h
  refine ⟨_, pss_cons (ps_expr (pc Gn (hr.mono (by omega)) (pa_cons (pe_lst (pa_cons (pc Gw (hr.mono (by omega)) (pa_cons (pv 1) pa_nil)) (pa_cons (pc Gw (hr.mono (by omega)) (pa_cons (pv 2) pa_nil)) pa_nil))) pa_nil)))
    (pss_cons (ps_expr (pm (pv 0) Gl (hr.mono (by omega)) (pa_cons (pv 1) pa_nil)))
    (pss_cons (ps_expr (pm (pv 0) Gl (hr.mono (by omega)) (pa_cons (pv 2) pa_nil)))
    (pss_one (ps_if (pt_cmpR (op_neD hr.units) (pe_ix ix_tup (pe_dget (hu_of hr) (pe_fld (pv 0) rfl) (pv 1) (fun _ _ => rfl)) pe_int (fun _ _ => rfl)) (pe_ix ix_tup (pe_dget (hu_of hr) (pe_fld (pv 0) rfl) (pv 2) (fun _ _ => rfl)) pe_int (fun _ _ => rfl)) (nomark _)) pss_never pss_nil)))), ?_⟩
  refine ⟨_, rfl, x, rfl, wx, fun H1 s1 => ⟨_, rfl, y, rfl, wy, fun H1' s1' => ⟨by show 2 ≤ sizeLine; decide, fun q nq => ⟨q, 2, rfl, upd_same, fun H2 s2 => ?_⟩⟩⟩⟩
  have s12 := ((s1.trans s1').new (o := .lst [V.bl true, V.bl true]) nq).trans s2
  have tk2 := tk.mono s12
  obtain ⟨dx, sp, sd, cl, past, kvs, D⟩ := id tk2
  refine ⟨_, rfl, t, dx, _, rfl, D.obj, rfl, _, rfl, t, pl, said, L, N, x, n, rfl, tk2, nd, hx, ?_⟩
  refine ⟨_, rfl, t, dx, _, rfl, D.obj, rfl, _, rfl, t, pl, said, L, N, y, m, rfl, tk2, nd, hy, ?_⟩
  obtain ⟨q1, d1, h1, h2, h3⟩ := seat_val D.seat nd hx
  obtain ⟨q2, d2, g1, g2, g3⟩ := seat_val D.seat nd hy
  have a1 := DGet.k (k := .inr x) D.seat.dict
  have a2 := DGet.k (k := .inr y) D.seat.dict
  rw [h1] at a1
  rw [g1] at a2
  refine ⟨_, rfl, t, _, dx, _, _, rfl, D.obj, F.cl, F.na2, rfl, _, rfl, sd, .ref q1, rfl, a1, q1, _, 1, _, rfl, rfl, SqT.of h2, rfl, ?_⟩
  refine ⟨_, rfl, t, _, dx, _, _, rfl, D.obj, F.cl, F.na2, rfl, _, rfl, sd, .ref q2, rfl, a2, q2, _, 1, _, rfl, rfl, SqT.of g2, rfl, ?_⟩
  exact ⟨.tuple [], .tuple [], .tup (SqT.of h3) .nil, .tup (SqT.of g3) .nil, rfl, rfl, _, rfl, iteFb (by decide +kernel) (k _ s12)⟩
end
end Tw
end
section
/-! text S10 -/
set_option maxHeartbeats 4000000
namespace Tw
open PySem PySem.Spec PyProof.Rows L2
/-! ### a dict whose keys are tuples: setdefault, its values -/
section
variable {X : Cx}
def rSetdT : V → List V → Hp → VK → Prop := fun x xs H Q => ∃ (a : Addr) (kvs : List (List Key × V)) (k : List Key) (b : Addr) (d : V), x = .ref a ∧ xs = [.ref b, d] ∧ H a = some (.dT kvs) ∧ H b = some (.tup (k.map kV)) ∧ kvs.length < sizeLine ∧
  (∀ v, valV kvs k = some v → Q v H) ∧ (valV kvs k = none → Q d (upd H a (.dT (putK kvs k d))))
theorem mt_setdT (hu : X.A.units + 1 < cLine) : MtR X "dict.setdefault" rSetdT := by
  intro pins s σ H x xs v us Q I rx r h
  obtain ⟨a, kvs, k, b, d, rfl, rfl, ea, eb, hl, q1, q2⟩ := h
  obtain rfl : v = Value.ref a := rx
  obtain ⟨u, r1, eu, ru, rd⟩ := Vals.two r
  subst eu
  obtain rfl : u = Value.ref b := ru
  obtain ⟨z, hd, ps, rel, dd⟩ := dt_of I.hok ea
  have hz : ps.length ≤ sizeLine := by rw [← Paired.length rel]; exact z
  have hv := rel.val k
  refine call_setdefault_heap (hsz := hz) (tupleKind_room_in1 hu) (key_of I.hok eb) hd dd (fun p hp => ?_) fun hn h' dd' hs => ?_
  · rw [hp] at hv
    cases q0 : valV kvs k with
    | none => rw [q0] at hv; exact (show False from hv).elim
    | some v0 =>
      rw [q0] at hv
      exact ⟨v0, H, I.tok _, hv, q1 v0 q0⟩
  · rw [hn] at hv
    cases q0 : valV kvs k with
    | some v0 => rw [q0] at hv; exact (show False from hv).elim
    | none =>
      have hl2 : (putK kvs k d).length ≤ sizeLine := by have := length_putK kvs k d; omega
      obtain ⟨q, es, ep, hq, h2, h3, h4, _, h5⟩ := dd'
      refine ⟨d, _, d_write (ob := .dT (putK kvs k d)) (t' := s.toks + _) I (by rw [ea]; exact True.intro) hs ⟨q, hq⟩ ⟨hl2, hd, _, (rel.put k eb rd).keeps fun c ys ec => ?_, q, es, ep, hq, h2, h3, h4, h5⟩, rd, q2 q0⟩
      rw [upd_ne (fun e => by subst e; rw [ea] at ec; cases ec)]
      exact ec
end
section
variable {X : Cx} {pins : List (Addr × Obj)} {σ : L2.St} {H : Hp} {s : Shared} {d : Addr} {o : Obj}
theorem frzTV {kvs : List (List Key × V)} (I : L2.Inv X pins σ H s) (h : H d = some (.frz o (.dT kvs))) :
    (d == sysModules) = false ∧ s.heap.get? d = some o ∧ o.ExactDict ∧ ∃ (es : Array DictEntry) (ep : Nat), o.data = .dict es ep ∧ es.size = kvs.length ∧
      ∀ (i : Nat) (k : List Key) (v : V), kvs[i]? = some (k, v) → ∃ (en : DictEntry), es[i]? = some en ∧ RelV v en.val := by
  obtain ⟨hd, z, hs, xs, pr, o', es, ep, ho, hx, hdt, he, _⟩ := I.hok d _ h
  rw [hd] at ho
  cases ho
  have l1 : es.size = xs.length := size_of_entries he
  have l2 : kvs.length = xs.length := Paired.length pr
  refine ⟨hs, hd, hx, es, ep, hdt, by omega, fun i k v e => ?_⟩
  obtain ⟨b, hb, e1, e2, e3⟩ := paired_get pr e
  have q := entry_at he i
  rw [hb] at q
  exact ⟨_, q, e3⟩
end
/-- the values of the locked dict at d -/
def ItdT (d : Addr) (o : Obj) (kvs : List (List Key × V)) : It :=
  ⟨fun i H => H d = some (.frz o (.dT kvs)) ∧ i < kvs.length, fun i H x H' => H' = H ∧ ∃ k, kvs[i]? = some (k, x), fun i H => H d = some (.frz o (.dT kvs)) ∧ kvs.length ≤ i⟩
theorem turn_valsT {P : Program} {w : World} {K : PySem.W.Frag} {tg : Expr} {d : Addr} {o : Obj} {es : Array DictEntry} {ep : Nat} {kvs : List (List Key × V)} (it : Addr) (hod : o.data = .dict es ep) :
    Turn P w K tg (ItdT d o kvs) [it] it (fun i h => h.IsValIter it d i kvs.length ep) where
  mem := by simp
  obj := fun i h st b hb => by
    have e : b = it := by simpa using hb
    subst e
    obtain ⟨oi, e, c, dd⟩ := st
    exact ⟨oi, e, fun v z => by rw [dd] at z; cases z⟩
  keep := fun i h h' st k => st.at fun oi e => k it (by simp) oi e
  item := by
    intro X hP hw hK hc i pins s σ H E I hf st hg
    subst hP hw hK
    obtain ⟨hd, hi⟩ := hg
    have f := hf it (by simp)
    obtain ⟨hs, hgd, hx, es', ep', hdt, hsz, ent⟩ := frzTV I hd
    obtain ⟨e1, e2⟩ := dict_ep hod hdt
    subst e1; subst e2
    obtain ⟨⟨k, v⟩, hkv⟩ : ∃ p, kvs[i]? = some p := ⟨kvs[i], List.getElem?_eq_getElem hi⟩
    obtain ⟨en, hen, ru⟩ := ent i k v hkv
    have hlt : i < es'.size := by omega
    rw [← hsz] at st
    refine wpAny_pyNext_values_item_raw st ⟨o, hgd, hx, hdt⟩ hlt fun h' st' sb => ?_
    have I1 : L2.Inv X pins σ H { s with heap := h' } := I.turned (t' := s.toks) (fun b ob hb e => (sb.2 b hb).trans e) f.1 f.2.1 f.2.2.2.1 f.2.2.2.2.1 f.2.2.2.2.2
    obtain ⟨oi, e, c, dd⟩ := id st'
    have ev : es'[i].val = en.val := by
      rw [Array.getElem?_eq_getElem hlt] at hen
      rw [Option.some.inj hen]
    refine ⟨_, rfl, go_of (s := { s with heap := h' }) e c dd (by decide) ⟨v, H, I1, by rw [ev]; exact ru, ⟨rfl, k, hkv⟩, ?_, fun b hb => (hf b hb).1⟩⟩
    show h'.IsValIter it d (i + 1) kvs.length _
    rw [← hsz]
    exact st'
  done := by
    intro X hP hw hK hc i pins s σ H E I hf st hg
    subst hP hw hK
    obtain ⟨hd, hi⟩ := hg
    have f := hf it (by simp)
    obtain ⟨hs, hgd, hx, es', ep', hdt, hsz, ent⟩ := frzTV I hd
    obtain ⟨e1, e2⟩ := dict_ep hod hdt
    subst e1; subst e2
    rw [← hsz] at st
    exact wpAny_pyNext_values_end_raw (I.ok.hd hc) st ⟨o, hgd, hx, hdt⟩ (by omega) fun h' eb => ⟨rfl, I.turned (t' := s.toks) (fun b ob hb e => eb b ob hb e) f.1 f.2.1 f.2.2.2.1 f.2.2.2.2.1 f.2.2.2.2.2⟩
  self := fun A i s Q E st h => wpAny_pyIter_valiter st h
def iValsT (td : TE) : TI := fun σ H R => td σ H fun x H1 => ∃ d o kvs, x = .ref d ∧ H1 d = some (.frz o (.dT kvs)) ∧ R (ItdT d o kvs) H1
theorem pi_valuesT {X : Cx} {tg e : Expr} {td : TE} {apos cpos : Pos} (he : PE X e td) (hbase : attributeBase e "values" X.env (eval e X.env) = eval e X.env := by rfl) (hline : (apos.endLine == cpos.line) = true := by rfl) : PI X tg (.Call (.Attribute e "values" apos) [] [] cpos) (iValsT td) := by
  constructor
  intro pins s σ H R I h
  refine wpAny_Call_method (T := "dict") (id := "dict.values") hbase rfl hline PySem.F.plainAttrs_dict PySem.F.slot_dict_values PySem.F.type_dict_values (thn (he.run pins s σ H _ I h) ?_)
  rintro u s1 ⟨x, H1, I1, rx, d, o, kvs, rfl, hd, q⟩
  obtain rfl : u = Value.ref d := rx
  obtain ⟨hs, hgd, hx, es, ep, hdt, hsz, ent⟩ := frzTV I1 hd
  have raw : s1.heap.DictRaw d es ep := ⟨o, hgd, hx, hdt⟩
  refine ⟨raw.typeIs, fun a ha => by cases ha; exact ⟨o, hgd, hx.2.1⟩, ?_⟩
  have I2 : L2.Inv X pins σ H1 { s1 with heap := s1.heap.push { cls := .type "dict_values", data := .fields #[.ref d] } } := I1.kept (t' := s1.toks) fun b ob q => Heap.get?_push_of_some _ q
  have fin : wpAny (model X.prog X.w) X.A (pyIter (.ref s1.heap.objs.size)) (PIE X pins σ tg R) X.xe { s1 with heap := s1.heap.push { cls := .type "dict_values", data := .fields #[.ref d] } } := by
    refine wpAny_pyIter_values_raw (d := d) ⟨_, Heap.get?_push_size _ rfl, rfl, rfl⟩ (raw.at fun o e => Heap.get?_push_of_some _ e) (pi_one (tk := s1.toks) I2 _ (turn_valsT _ hdt) ⟨_, Heap.get?_push_size _ rfl, rfl, ?_⟩ q)
    rw [hsz] <;> rfl
  show wpAny _ _ (callWith cpos (.builtin "dict.values") [.ref d] [] []) _ X.xe s1
  exact method_meetsIn PySem.F.slot_dict_values PySem.F.entry_dict_values rfl (PySem.evalArgs_none ⟨rfl, raw.typeIs, PySem.F.args_dict_values_1 _, _, meets_dict_values_raw d hs, ⟨es, ep, raw⟩, fin⟩)
/-! ### sorted of a list of lists of texts that stand in order -/
abbrev encT (ws : List Str) : PyData := .list (ws.map .str)
abbrev encP (z : Addr × List Str) : PyData := encT z.2
theorem alike_strs : ∀ xs ys : List Str, PySem.W.alikeAll (xs.map .str) (ys.map .str) = true
  | [], _ => by simp [PySem.W.alikeAll]
  | _ :: _, [] => by simp [PySem.W.alikeAll]
  | x :: xs, y :: ys => by
    have := alike_strs xs ys
    simp only [List.map_cons, PySem.W.alikeAll, this, Bool.and_true]
    simp [PySem.W.alike]
theorem depth_strs : ∀ xs : List Str, PyData.depthAll (xs.map .str) = 0
  | [] => by simp [PyData.depthAll]
  | x :: xs => by
    have := depth_strs xs
    simp only [List.map_cons, PyData.depthAll, this]
    simp [PyData.depth]
theorem dpAll_strs {K : PySem.W.Frag} {H : Hp} : ∀ ws : List Str, DpAll K H (ws.map V.str) (ws.map .str)
  | [] => .nil
  | w :: ws => .cons (.str w) (dpAll_strs ws)
section
variable {X : Cx}
def rSortLL (K : PySem.W.Frag) : List V → Hp → VK → Prop := fun vs H Q => ∃ (a : Addr) (L : List (Addr × List Str)), vs = [.ref a] ∧ SqL K H a (L.map fun z => V.ref z.1) ∧ (∀ z ∈ L, LS H z.1 z.2) ∧ L.length ≤ 4 ∧
  L.Pairwise (fun x y => PySem.W.dataLe false encP x y = true) ∧ ∀ (q : Addr), H q = none → Q (.ref q) (upd H q (.lst (L.map fun z => V.ref z.1)))
theorem each_refs : ∀ {L : List (Addr × List Str)} {us : List Value}, Vals (L.map fun z => V.ref z.1) us → PySem.W.EachIs (fun v (z : Addr × List Str) => v = Value.ref z.1) us L
  | [], _, h => by cases h; exact .nil
  | z :: L, _, h => by
    cases h with
    | cons r h => exact .cons r (each_refs h)
theorem each_back : ∀ {L : List (Addr × List Str)} {us : List Value}, PySem.W.EachIs (fun v (z : Addr × List Str) => v = Value.ref z.1) us L → Vals (L.map fun z => V.ref z.1) us
  | [], _, h => by cases h; exact .nil
  | z :: L, _, h => by
    cases h with
    | cons r h => exact .cons r (each_back h)
theorem each_reads {pins : List (Addr × Obj)} {σ : L2.St} {H : Hp} {s : Shared} (I : L2.Inv X pins σ H s) : ∀ {L : List (Addr × List Str)} {us : List Value}, PySem.W.EachIs (fun v (z : Addr × List Str) => v = Value.ref z.1) us L → (∀ z ∈ L, LS H z.1 z.2) → PySem.W.EachIs (fun v b => ∃ as, Reads s.heap v (encP b) as) us L
  | [], _, h, _ => by cases h; exact .nil
  | z :: L, _, h, hL => by
    cases h with
    | cons r h =>
      refine .cons ?_ (each_reads I h fun y hy => hL y (List.mem_cons_of_mem _ hy))
      rw [r]
      exact Dp.reads I _ (.ref z.1) _ (.lst (SqL.of (hL z List.mem_cons_self)) (dpAll_strs z.2)) rfl
theorem cr_sortLL (hu : X.A.units + 64 < cLine) : CallR X (.builtin "sorted") (rSortLL X.K) := by
  intro pins s σ H vs us Q I r h
  obtain ⟨a, L, rfl, ha, hL, h4, hp, q⟩ := h
  rw [Vals.ref1 r]
  obtain ⟨its, rv, hl, _⟩ := I.list ha
  have e1 := each_refs rv
  have e2 := each_reads I e1 hL
  refine PySem.W.sorted_data (vs := its) (bs := L) (enc := encP) hl.isList e1 e2 (PySem.W.AllAlike.of fun b b' => ?_) (PySem.W.Sortable.others fun b => ⟨by simp, by simp⟩) (by rw [sizeLine_eq]; omega) (fun b _ => ?_) fun out hlen hout => ?_
  · show PySem.W.alike (.list _) (.list _) = true
    simp only [PySem.W.alike]
    exact alike_strs _ _
  · have : (encP b).depth ≤ 1 := by
      show PyData.depth (.list _) ≤ 1
      simp only [PyData.depth]
      rw [depth_strs]
      decide
    omega
  · rw [List.mergeSort_of_pairwise hp] at hout
    have hv := each_back hout
    obtain ⟨ep, he'⟩ := PyProof.Rows.sortedAll_at s.heap its out.toArray
    have hz : (L.map fun z => V.ref z.1).length ≤ sizeLine := by rw [List.length_map, sizeLine_eq]; omega
    refine ⟨.ref _, upd H (s.heap.objs.size + 1) (.lst (L.map fun z => V.ref z.1)), I.laid (t' := s.toks) (fun _ _ => PyProof.Rows.sortedAll_old) (Nat.le_succ _) ⟨hz, out, ep, hv, he'⟩, rfl, q _ (I.hok.fresh (Nat.le_succ _))⟩
end
end Tw
end
section
/-! text T3 -/
set_option maxHeartbeats 4000000
namespace Tw
open PySem PySem.Spec PyProof.Rows L2
theorem cr_lenD {X : Cx} : CallR X (.builtin "len") (fun xs H Q => ∃ (a : Addr) (kvs : List (Key × V)), xs = [.ref a] ∧ H a = some (.dK kvs) ∧ Q (.int kvs.length) H) := by
  intro pins s σ H xs us Q I r h
  obtain ⟨a, kvs, rfl, e, q⟩ := h
  rw [Vals.ref1 r]
  exact d_len I (.inl e) fun t s' I' => ⟨.int kvs.length, H, I', ⟨t, rfl⟩, q⟩
section
variable {P : Program} {w : World} {K : PySem.W.Frag} {mg : Str → Option Value} {base : Heap}
def spTd (K : PySem.W.Frag) : Sp := fun vs H Q _ => ∃ t pl said L N x n y m, vs = [.ref t, .str x, .str y] ∧ Tk K H t pl said L N ∧ Names L ∧ (x, n) ∈ L ∧ (y, m) ∈ L ∧ WordOk x ∧ WordOk y ∧ said.length ≤ 400 ∧ Few 4 said ∧ (∀ z ∈ said, WordOk z) ∧
  (¬ Sim (said.drop n) (said.drop m) → ¬ Shut (said.drop n) (said.drop m) → ¬ ∀ z, z ∈ said.drop n ↔ z ∈ said.drop m) ∧ ∀ H' r, Same H H' → DoorAt H' r (said.drop n) (said.drop m) → Q (.ref r) H'
theorem ok_door (T : TX K mg) : CalM P w K mg base 24 "Talk" "door" ["self", "name", "other"] (spTd K) := by
  have F := T.tk
  have Gb := ok_need_both (P := P) (w := w) (base := base) T
  have Gh := ok_heard_of (P := P) (w := w) (base := base) T
  have Gd := ok_door_doors (P := P) (w := w) (base := base) T
  refine mk_calM (q := "Talk.door") (st := s_Talk_door) T 59 100 76 rfl rfl rfl sc_Talk_door (fun _ _ _ _ _ _ us hl => match us, hl with | [_, _, _], _ => rfl) (fun vs H Q E h => ?_) (fun cdv A outer s H vs Q E hr h => ?_)
  · obtain ⟨t, pl, said, L, N, x, n, y, m, rfl, _⟩ := h; rfl
  obtain ⟨t, pl, said, L, N, x, n, y, m, rfl, tk, nd, hx, hy, wx, wy, hl, f4, wok, hne, k⟩ := h
  refine ⟨_, pss_cons (ps_expr (pm (pv 0) Gb (hr.mono (by omega)) (pa_cons (pv 1) (pa_cons (pv 2) pa_nil))))
    (pss_cons (ps_set (i := 3) sc_Talk_door.nd rfl (.inl rfl) (plen T (pe_fld (pv 0) rfl)))
    (pss_one (ps_ret (pc Gd hr (pa_cons (pm (pv 0) Gh (hr.mono (by omega)) (pa_cons (pv 1) (pa_cons (pv 3) pa_nil))) (pa_cons (pm (pv 0) Gh (hr.mono (by omega)) (pa_cons (pv 2) (pa_cons (pv 3) pa_nil))) pa_nil)))))), ?_⟩
  obtain ⟨dx, sp, sd, cl, past, kvs, D⟩ := id tk
  refine ⟨_, rfl, t, dx, _, rfl, D.obj, rfl, _, rfl, _, rfl, t, pl, said, L, N, x, n, y, m, rfl, tk, nd, hx, hy, wx, wy, fun H1 s1 => ?_⟩
  have tk1 := tk.mono s1
  refine ⟨_, rfl, t, _, dx, _, _, rfl, s1 _ _ D.obj, F.cl, F.na1, rfl, sp, _, rfl, .inl (SqL.of (s1 _ _ D.spk)), ?_⟩
  refine ⟨_, rfl, t, dx, _, rfl, s1 _ _ D.obj, rfl, _, rfl, _, rfl, t, pl, said, L, N, x, n, said.length, by show _ = _; rw [List.length_map]; rfl, tk1, nd, hx, by omega, fun H2 p s2 np hp => ?_⟩
  have s12 := s1.trans s2
  refine ⟨_, rfl, t, dx, _, rfl, s12 _ _ D.obj, rfl, _, rfl, _, rfl, t, pl, said, L, N, y, m, said.length, by show _ = _; rw [List.length_map]; rfl, tk.mono s12, nd, hy, by omega, fun H3 q s3 nq hq => ?_⟩
  rw [List.take_length] at hp hq
  have sub : ∀ z ∈ said.drop n ++ said.drop m, z ∈ said := fun z hz => by
    rcases List.mem_append.mp hz with hz | hz <;> exact List.mem_of_mem_drop hz
  exact ⟨p, q, said.drop n, said.drop m, rfl, s3 _ _ hp, hq, ⟨by rw [List.length_drop]; omega, by rw [List.length_drop]; omega, f4.sub sub⟩, fun z hz => wok z (sub z hz), hne, fun H' r s4 dr => k H' r ((s12.trans s3).trans s4) dr⟩
def spSay (K : PySem.W.Frag) : Sp := fun vs H Q _ => ∃ t pl said L N x, vs = [.ref t, .str x] ∧ Tk K H t pl said L N ∧ WordOk x ∧ Few 4 (said ++ [x]) ∧ said.length + 1 ≤ 300 ∧ N ≤ 1000 ∧ ∀ H' sp, SL [t, pl] H H' → H sp = none → TkS K H' t pl sp (said ++ [x]) L (N + 1) → Q .non H'
theorem ok_say (T : TX K mg) : CalM P w K mg base 2 "Talk" "say" ["self", "word"] (spSay K) := by
  have F := T.tk
  have Gw := ok_is_word (P := P) (w := w) (base := base) T
  have Gn := ok_need (P := P) (w := w) (base := base) T
  have Gr := ok_need_room (P := P) (w := w) (base := base) T
  have Gb := ok_begin (P := P) (w := w) (base := base) T
  refine mk_calM (q := "Talk.say") (st := s_Talk_say) T 52 93 76 rfl rfl rfl sc_Talk_say (fun _ _ _ _ _ _ us hl => match us, hl with | [_, _], _ => rfl) (fun vs H Q E h => ?_) (fun cdv A outer s H vs Q E hr h => ?_)
  · obtain ⟨t, pl, said, L, N, x, rfl, _⟩ := h; rfl
  obtain ⟨t, pl, said, L, N, x, rfl, tk, wx, f4, hl, hN, k⟩ := h
  refine ⟨_, pss_cons (ps_expr (pc Gn hr (pa_cons (pe_lst (pa_cons (pc Gw hr (pa_cons (pv 1) pa_nil)) pa_nil)) pa_nil)))
    (pss_cons (ps_expr (pc Gr hr (pa_cons (pe_fld (pv 0) rfl) (pa_cons (pe_lst (pa_cons (pv 1) pa_nil)) pa_nil))))
    (pss_one (ps_expr (pm (pv 0) Gb hr (pa_cons (pe_op op_cat (pe_fld (pv 0) rfl) (pe_lst (pa_cons (pv 1) pa_nil))) (pa_cons (pe_fld (pv 0) rfl) pa_nil)))))), ?_⟩
  refine ⟨_, rfl, x, rfl, wx, fun H1 s1 => ⟨by show 1 ≤ sizeLine; decide, fun q nq => ⟨q, 1, rfl, upd_same, fun H2 s2 => ?_⟩⟩⟩
  have s12 := (s1.new (o := .lst [V.bl true]) nq).trans s2
  have tk2 := tk.mono s12
  obtain ⟨dx, sp, sd, cl, past, kvs, D⟩ := id tk2
  refine ⟨_, rfl, t, _, dx, _, _, rfl, D.obj, F.cl, F.na1, rfl, _, rfl, by show 1 ≤ sizeLine; decide, fun l nl => ?_⟩
  have s3 := same_new (o := .lst [V.str x]) nl
  refine ⟨sp, l, said, [x], rfl, s3 _ _ D.spk, upd_same, f4, by show _ + 1 ≤ _; omega, fun H4 s4 => ?_⟩
  have s24 := s3.trans s4
  have D4o := s24 _ _ D.obj
  refine ⟨_, rfl, t, dx, _, rfl, D4o, rfl, _, rfl, t, _, dx, _, _, rfl, D4o, F.cl, F.na1, rfl, _, rfl, by show 1 ≤ sizeLine; decide, fun l5 nl5 => ?_⟩
  have s5 := s24.new (o := .lst [V.str x]) nl5
  refine ⟨sp, l5, _, _, rfl, rfl, s5 _ _ D.spk, upd_same, small_line (by rw [List.length_map]; show _ + 1 ≤ _; omega), fun p np => ?_⟩
  have s6 := s5.new (o := .lst (said.map V.str ++ [V.str x])) np
  have hp : LS (upd (upd H4 l5 (.lst [V.str x])) p (.lst (said.map V.str ++ [V.str x]))) p (said ++ [x]) := by
    show upd _ _ _ _ = _
    rw [upd_same, List.map_append]; rfl
  have hpp : p ≠ pl := fun e => by subst e; have := s5 _ _ D.pst; rw [np] at this; cases this
  generalize upd (upd H4 l5 (.lst [V.str x])) p (.lst (said.map V.str ++ [V.str x])) = H6 at s6 hp
  refine ⟨_, rfl, t, _, dx, _, _, rfl, s6 _ _ D.obj, F.cl, F.na2, rfl, t, pl, p, sd, said, L, N, said ++ [x], kvs, L, rfl, tk2.mono s6, hN, hp, hpp, D.seat.mono s6, fun H' sl tk' => k H' p ((SL.of (s12.trans s6)).trans sl) ((s12.trans s5).free np) tk'⟩
def spTell (K : PySem.W.Frag) : Sp := fun vs H Q _ => ∃ t pl said L N a ws, vs = [.ref t, .ref a] ∧ Tk K H t pl said L N ∧ LS H a ws ∧ SpOk ws ∧ Few 4 (said ++ ws) ∧ said.length + ws.length ≤ 300 ∧ N ≤ 1000 ∧ ∀ H' sp, SL [t, pl] H H' → H sp = none → TkS K H' t pl sp (said ++ ws) L (N + 1) → Q .non H'
theorem ok_tell (T : TX K mg) : CalM P w K mg base 3 "Talk" "tell" ["self", "speech"] (spTell K) := by
  have F := T.tk
  have Gw := ok_is_speech (P := P) (w := w) (base := base) T
  have Gn := ok_need (P := P) (w := w) (base := base) T
  have Gr := ok_need_room (P := P) (w := w) (base := base) T
  have Gb := ok_begin (P := P) (w := w) (base := base) T
  refine mk_calM (q := "Talk.tell") (st := s_Talk_tell) T 53 94 76 rfl rfl rfl sc_Talk_tell (fun _ _ _ _ _ _ us hl => match us, hl with | [_, _], _ => rfl) (fun vs H Q E h => ?_) (fun cdv A outer s H vs Q E hr h => ?_)
  · obtain ⟨t, pl, said, L, N, a, ws, rfl, _⟩ := h; rfl
  obtain ⟨t, pl, said, L, N, a, ws, rfl, tk, hA, wx, f4, hl, hN, k⟩ := h
  refine ⟨_, pss_cons (ps_expr (pc Gn (hr.mono (by omega)) (pa_cons (pe_lst (pa_cons (pc Gw hr (pa_cons (pv 1) pa_nil)) pa_nil)) pa_nil)))
    (pss_cons (ps_expr (pc Gr (hr.mono (by omega)) (pa_cons (pe_fld (pv 0) rfl) (pa_cons (pv 1) pa_nil))))
    (pss_one (ps_expr (pm (pv 0) Gb (hr.mono (by omega)) (pa_cons (pe_op op_cat (pe_fld (pv 0) rfl) (pv 1)) (pa_cons (pe_fld (pv 0) rfl) pa_nil)))))), ?_⟩
  refine ⟨_, rfl, a, ws, rfl, hA, wx, fun H1 s1 => ⟨by show 1 ≤ sizeLine; decide, fun q nq => ⟨q, 1, rfl, upd_same, fun H2 s2 => ?_⟩⟩⟩
  have s12 := (s1.new (o := .lst [V.bl true]) nq).trans s2
  have tk2 := tk.mono s12
  obtain ⟨dx, sp, sd, cl, past, kvs, D⟩ := id tk2
  refine ⟨_, rfl, t, _, dx, _, _, rfl, D.obj, F.cl, F.na1, rfl, _, rfl, sp, a, said, ws, rfl, D.spk, s12 _ _ hA, f4, hl, fun H4 s4 => ?_⟩
  have D4o := s4 _ _ D.obj
  refine ⟨_, rfl, t, dx, _, rfl, D4o, rfl, _, rfl, t, _, dx, _, _, rfl, D4o, F.cl, F.na1, rfl, _, rfl, ?_⟩
  refine ⟨sp, a, _, _, rfl, rfl, s4 _ _ D.spk, s4 _ _ (s12 _ _ hA), small_line (by rw [List.length_map, List.length_map]; omega), fun p np => ?_⟩
  have s6 := s4.new (o := .lst (said.map V.str ++ ws.map V.str)) np
  have hp : LS (upd H4 p (.lst (said.map V.str ++ ws.map V.str))) p (said ++ ws) := by
    show upd _ _ _ _ = _
    rw [upd_same, List.map_append]
  have hpp : p ≠ pl := fun e => by subst e; have := s4 _ _ D.pst; rw [np] at this; cases this
  generalize upd H4 p (.lst (said.map V.str ++ ws.map V.str)) = H6 at s6 hp
  refine ⟨_, rfl, t, _, dx, _, _, rfl, s6 _ _ D.obj, F.cl, F.na2, rfl, t, pl, p, sd, said, L, N, said ++ ws, kvs, L, rfl, tk2.mono s6, hN, hp, hpp, D.seat.mono s6, fun H' sl tk' => k H' p ((SL.of (s12.trans s6)).trans sl) ((s12.trans s4).free np) tk'⟩
end
end Tw
end
section
/-! text T4 -/
set_option maxHeartbeats 4000000
namespace Tw
open PySem PySem.Spec PyProof.Rows L2
section
variable {P : Program} {w : World} {K : PySem.W.Frag} {mg : Str → Option Value} {base : Heap}
/-- a method with defaults that fill up -/
structure CalMD (P : Program) (w : World) (K : PySem.W.Frag) (mg : Str → Option Value) (base : Heap) (k : Nat) (C m : Str) (ps : List Str) (dvs : List V) (sp : Sp) : Prop where
  ex : ∃ fd ds, FnOk P w K mg base CX0 k (He.ma K (He.ga K C) m) fd ps sp ∧ Binds K fd ps ds ∧ Vals dvs ds
  cl : Cls K (He.ga K C)
  mt : Meth K (He.ga K C) m (He.ma K (He.ga K C) m)
theorem pmD {X : Cx} {k : Nat} {m C : Str} {ps : List Str} {dvs : List V} {sp : Sp} {pos apos : Pos} {e o : Expr} {es : List Expr} {t : TA} {ta : TE} {pl : Sem Bool} (he : PE X o ta) (c : CalMD X.prog X.w X.K X.mg X.base k C m ps dvs sp) (hr : Room k X.A) (ha : PA X (e :: es) t)
    (hst : starEach (e :: es) X.env = (false, eval e X.env) :: starEach es X.env := by rfl) (hpl : (backTo pos (starEach es X.env)).any (·.1) = false := by rfl)
    (ht : eval (.Call (.Attribute o m apos) (e :: es) [] pos) X.env = (do
      let q ← eval o X.env
      standAt apos.atName
      let (f, first) ← holding [q] (getMethod q m pl)
      callWith pos f first (backTo pos (starEach (e :: es) X.env)) (backToKw pos (keywordEach [] X.env))) := by rfl) :
    PE X (.Call (.Attribute o m apos) (e :: es) [] pos) (tMeth (He.ga X.K C) m sp dvs E0 ta t) :=
  let ⟨_, _, F, b, v⟩ := c.ex
  pe_meth he c.cl c.mt F hr b v pass0 ha hst hpl ht
theorem deaf_tup (T : TX K mg) (H : Hp) : SqT K H (comeDeaf K) [] ∧ ∃ o, K.lookup (comeDeaf K) = some o ∧ o.cls = .type "tuple" := by
  have h := T.deaf
  unfold deafB at h
  cases e : K.lookup (comeDeaf K) with
  | none => rw [e] at h; cases h
  | some o =>
    obtain ⟨c, d, dat, sl⟩ := o
    rw [e] at h
    cases c with
    | type c =>
      cases dat with
      | seq its n =>
        have h2 : (decide (c = "tuple") && its.isEmpty) = true := h
        rw [Bool.and_eq_true] at h2
        have hc : c = "tuple" := of_decide_eq_true h2.1
        have hi : its = #[] := by simpa using h2.2
        subst hc; subst hi
        exact ⟨.inr ⟨_, #[], n, e, rfl, rfl, by simp, .nil⟩, _, rfl, rfl⟩
      | _ => cases h
    | _ => cases h
def spCome (K : PySem.W.Frag) : Sp := fun vs H Q _ => ∃ t pl sp said L N x, vs = [.ref t, .str x, .ref (comeDeaf K)] ∧ TkS K H t pl sp said L N ∧ WordOk x ∧ x ∉ L.map Prod.fst ∧ L.length < 8 ∧ said.length ≤ 1000 ∧ N ≤ 1000 ∧ ∀ H', SL [t, pl] H H' → TkS K H' t pl sp said (L ++ [(x, said.length)]) (N + 1) → Q .non H'
theorem ok_come (T : TX K mg) : CalMD P w K mg base 3 "Talk" "come" ["self", "name", "deaf"] [.ref (comeDeaf K)] (spCome K) := by
  have F := T.tk
  have Gw := ok_is_word (P := P) (w := w) (base := base) T
  have Ga := ok_are_words (P := P) (w := w) (base := base) T
  have Gn := ok_need (P := P) (w := w) (base := base) T
  have Gb := ok_begin (P := P) (w := w) (base := base) T
  obtain ⟨t8, g8⟩ := T.int 70 (x := "MOST_LISTENERS") (n := 8) rfl
  obtain ⟨fd, FD⟩ := T.d.def_ 51 (d := d_Talk_come) rfl
  have hk : He.DefD.kws K d_Talk_come = [(("deaf" : Str), V.ref (comeDeaf K))] := rfl
  obtain ⟨ds, hds, hb⟩ : ∃ ds, Vals [V.ref (comeDeaf K)] ds ∧ Binds K fd ["self", "name", "deaf"] ds := by
    refine FunD.binds0 (ps := ["self", "name", "deaf"]) (kws := [("deaf", .ref (comeDeaf K))]) FD 2 (by simp) rfl ?_
    intro D doc pm an cdv ct us ks h1 h2
    match us, h1 with
    | [u1, u2], _ =>
      match ks, h2 with
      | [k1], _ => exact ⟨_, _, _, _, _, _, rfl, rfl, rfl⟩
  have body : BodyOk P w K mg base N_Talk_come "Talk.come" s_Talk_come (He.ma K (He.ga K "Talk") "come") 2 (spCome K) := by
    intro cdv A outer s H vs Q E hr h
    obtain ⟨t, pl, sp, said, L, N, x, rfl, tk, wx, hx, hL, hl, hN, k⟩ := h
    refine ⟨_, pss_cons (ps_expr (pc Gn (hr.mono (by omega)) (pa_cons (pe_lst (pa_cons (pc Gw (hr.mono (by omega)) (pa_cons (pv 1) pa_nil)) (pa_cons (pe_and (pisi T (pv 2) (T.free 63 rfl) bo_tuple) (pe_one (pc Ga hr (pa_cons (pe_callTy call_list_of rfl (T.free 54 rfl) bo_list (pa_cons (pv 2) pa_nil)) pa_nil)))) pa_nil))) pa_nil)))
      (pss_cons (ps_if (pt_cmp (pc_din (hu_of hr) (pv 1) (pe_fld (pv 0) rfl)) (by rfl)) pss_never pss_nil)
      (pss_cons (ps_if (pt_cmpR op_ge (pe_callB cr_lenD rfl (T.free 48 rfl) bo_len (pa_cons (pe_fld (pv 0) rfl) pa_nil)) (pgi g8) (nomark _)) pss_never pss_nil)
      (pss_cons (ps_set (i := 3) sc_Talk_come.nd rfl (.inl rfl) (pe_callTy call_dictD rfl (T.free 60 rfl) bo_dict (pa_cons (pe_fld (pv 0) rfl) pa_nil)))
      (pss_cons (ps_dput (hu_of hr) (pv 3) (pv 1) (pe_tup (pa_cons (plen T (pe_fld (pv 0) rfl)) (pa_cons (pe_callTy call_tuple_of rfl (T.free 63 rfl) bo_tuple (pa_cons (pe_callB cr_sort0 rfl (T.free 56 rfl) bo_sorted (pa_cons (pv 2) pa_nil)) pa_nil)) pa_nil))) rfl)
      (pss_one (ps_expr (pm (pv 0) Gb (hr.mono (by omega)) (pa_cons (pe_fld (pv 0) rfl) (pa_cons (pv 3) pa_nil))))))))), ?_⟩
    obtain ⟨hT, oT, hoT, hcT⟩ := deaf_tup T H
    refine ⟨_, rfl, x, rfl, wx, fun H1 s1 => ⟨_, rfl, .ref (comeDeaf K), .ty "tuple", .type "tuple", .type "tuple", true, rfl, .ty _, .kTuple hoT hcT, kit_ty (by decide +kernel), true, rfl, iteTb rfl ?_⟩⟩
    refine ⟨_, rfl, comeDeaf K, [], rfl, .inr (deaf_tup T H1).1, fun l nl => ⟨l, rfl, upd_same, fun H2 s2 => ⟨by show 2 ≤ sizeLine; decide, fun q nq => ⟨q, 2, rfl, upd_same, fun H3 s3 => ?_⟩⟩⟩⟩
    have s13 := (((s1.new (o := .lst []) nl).trans s2).new (o := .lst [V.bl true, V.bl true]) nq).trans s3
    have tk3 := tk.mono s13
    obtain ⟨dx, sd, cl, past, kvs, D⟩ := id tk3
    have hv := seat_none D.seat hx
    refine ⟨_, rfl, _, rfl, t, _, dx, _, _, rfl, D.obj, F.cl, F.na2, rfl, sd, _, rfl, DGet.k (k := .inr x) D.seat.dict, _, rfl, iteFb (by rw [hv]; rfl) ?_⟩
    refine ⟨_, rfl, t, _, dx, _, _, rfl, D.obj, F.cl, F.na2, rfl, sd, kvs, rfl, D.seat.dict, _, 8, rfl, rfl, _, rfl, iteFb (decide_eq_false (by have := D.seat.len; omega)) ?_⟩
    refine ⟨_, rfl, t, _, dx, _, _, rfl, D.obj, F.cl, F.na2, rfl, sd, kvs, rfl, .inl D.seat.dict, fun d nd => ?_⟩
    have s4 := same_new (o := .dK kvs) nd
    have hd4 : upd H3 d (.dK kvs) d = some (.dK kvs) := upd_same
    generalize upd H3 d (.dK kvs) = H4 at s4 hd4
    refine ⟨_, rfl, t, _, dx, _, _, rfl, s4 _ _ D.obj, F.cl, F.na1, rfl, sp, _, rfl, .inl (SqL.of (s4 _ _ D.spk)), ?_⟩
    refine ⟨_, rfl, comeDeaf K, rfl, (deaf_tup T H4).1, fun l2 nl2 => ⟨l2, [], rfl, .inl ⟨SqL.of upd_same, fun e ne => ⟨by show 2 ≤ sizeLine; decide, fun u nu => ?_⟩⟩⟩⟩
    have s5 := (same_new (o := .lst []) nl2)
    have s6 := s5.new (o := .tup []) ne
    have s7 := s6.new (o := .tup [V.int ((said.map V.str).length : Nat), V.ref e]) nu
    have he7 : upd (upd (upd H4 l2 (.lst [])) e (.tup [])) u (.tup [V.int ((said.map V.str).length : Nat), V.ref e]) e = some (.tup []) := same_new nu _ _ upd_same
    have hu7 : upd (upd (upd H4 l2 (.lst [])) e (.tup [])) u (.tup [V.int ((said.map V.str).length : Nat), V.ref e]) u = some (.tup [V.int ((said.map V.str).length : Nat), V.ref e]) := upd_same
    have hd7 := s7 _ _ hd4
    generalize upd (upd (upd H4 l2 (.lst [])) e (.tup [])) u (.tup [V.int ((said.map V.str).length : Nat), V.ref e]) = H7 at s7 he7 hu7 hd7
    refine ⟨_, rfl, _, rfl, d, _, rfl, DPut.k (k := .inr x) hd7 (small_line' (by have := D.seat.len; omega)), ?_⟩
    rw [putK_new _ hv]
    have s8 : Same H3 (upd H7 d (.dK (kvs ++ [(.inr x, .ref u)]))) := (s4.trans s7).put nd
    have hd8 : upd H7 d (.dK (kvs ++ [(.inr x, .ref u)])) d = some (.dK (kvs ++ [(.inr x, .ref u)])) := upd_same
    have he8 : upd H7 d (.dK (kvs ++ [(.inr x, .ref u)])) e = some (.tup []) := by rw [upd_ne (fun z => by rw [z, hd7] at he7; cases he7)]; exact he7
    have hu8 : upd H7 d (.dK (kvs ++ [(.inr x, .ref u)])) u = some (.tup [V.int ((said.map V.str).length : Nat), V.ref e]) := by rw [upd_ne (fun z => by rw [z, hd7] at hu7; cases hu7)]; exact hu7
    generalize upd H7 d (.dK (kvs ++ [(.inr x, .ref u)])) = H8 at s8 hd8 he8 hu8
    have S8 := D.seat.mono s8
    have D8 := s8 _ _ D.obj
    have SN : SeatsAt H8 d (kvs ++ [(.inr x, .ref u)]) (L ++ [(x, said.length)]) := by
      refine ⟨hd8, by rw [List.length_append, List.length_append, D.seat.len]; rfl, fun i y n hi => ?_⟩
      by_cases c : i < L.length
      · rw [List.getElem?_append_left c] at hi
        obtain ⟨q', dd, a1, a2, a3⟩ := S8.at_ i y n hi
        exact ⟨q', dd, by rw [List.getElem?_append_left (by rw [D.seat.len]; exact c)]; exact a1, a2, a3⟩
      · rw [List.getElem?_append_right (by omega)] at hi
        have hi0 : i - L.length = 0 := by
          have := (List.getElem?_eq_some_iff.mp hi).1
          rw [List.length_singleton] at this
          omega
        rw [hi0] at hi
        cases hi
        refine ⟨u, e, ?_, ?_, he8⟩
        · rw [List.getElem?_append_right (by rw [D.seat.len]; omega), D.seat.len, hi0]; rfl
        · rw [hu8, List.length_map]
    refine ⟨_, rfl, t, dx, _, rfl, D8, rfl, _, rfl, t, _, dx, _, _, rfl, D8, F.cl, F.na1, rfl, _, rfl, t, pl, sp, d, said, L, N, said, _, _, rfl, (tk3.mono s8).tk, hN, s8 _ _ D.spk, D.ne, SN, fun H' sl tk' => k H' ((SL.of (s13.trans s8)).trans sl) tk'⟩
  refine ⟨⟨fd, ds, ?_, hb, hds⟩, F.cl, He.meth_ok (T.d.fact 92 rfl)⟩
  refine FunD.ok FD sc_Talk_come (fun vs H Q E h => ?_) fun cdv A outer s H vs Q E hr h => ?_
  · obtain ⟨t, pl, sp, said, L, N, x, rfl, _⟩ := h; rfl
  · obtain ⟨t, h1, h2⟩ := body cdv A outer s H vs Q E hr h
    exact ⟨t, h1.nox, h2⟩
end
end Tw
end
section
/-! text T5 -/
set_option maxHeartbeats 4000000
namespace Tw
open PySem PySem.Spec PyProof.Rows L2
/-- a list comprehension over the values of a locked dict whose keys are tuples -/
theorem lc_valsT {d : Addr} {o : Obj} {kvs : List (List Key × V)} {g : TG} {tt : TT} {te : TE} {vs : List Nat} {σ : L2.St} {H1 : Hp} {D : Addr} {Qd : Hp → Prop} (Pv : Nat → Hp → Prop) (h0 : Pv 0 (upd H1 D (.lst []))) (hl : ∀ i H, Pv i H → H d = some (.frz o (.dT kvs)))
    (hs : ∀ i k v H, kvs[i]? = some (k, v) → Pv i H → g v (wipe σ vs) H fun σ2 H2 => wipe σ2 vs = wipe σ vs ∧ tt σ2 H2 fun b H3 =>
      if b = true then te σ2 H3 fun y H4 => ∃ acc, H4 D = some (.lst acc) ∧ acc.length < sizeLine ∧ Pv (i + 1) (upd H4 D (.lst (acc ++ [y]))) else Pv (i + 1) H3) (hd : ∀ H, Pv kvs.length H → Qd H) :
    ∃ W : Nat → Nat → Hp → Prop, (∃ m, W 0 m (upd H1 D (.lst []))) ∧ ∀ i m H, W i m H →
      ((ItdT d o kvs).stop i H ∧ Qd H) ∨ ((ItdT d o kvs).go i H ∧ ∃ Nx : Hp → Prop, (∀ H', Nx H' → ∃ m', m' < m ∧ W (i + 1) m' H') ∧ ∀ v H', (ItdT d o kvs).yld i H v H' → g v (wipe σ vs) H' fun σ2 H2 => wipe σ2 vs = wipe σ vs ∧ tt σ2 H2 fun b H3 =>
        if b = true then te σ2 H3 fun y H4 => ∃ acc, H4 D = some (.lst acc) ∧ acc.length < sizeLine ∧ Nx (upd H4 D (.lst (acc ++ [y]))) else Nx H3) := by
  refine ⟨fun i m H => m = kvs.length - i ∧ i ≤ kvs.length ∧ Pv i H, ⟨_, rfl, Nat.zero_le _, h0⟩, ?_⟩
  rintro i m H ⟨rfl, hi, hp⟩
  have hL := hl i H hp
  by_cases hlt : i < kvs.length
  · refine .inr ⟨⟨hL, hlt⟩, Pv (i + 1), fun H' h' => ⟨kvs.length - (i + 1), by omega, rfl, hlt, h'⟩, ?_⟩
    rintro v H' ⟨rfl, k, hk⟩
    exact hs i k v H' hk hp
  · have e : i = kvs.length := by omega
    subst e
    exact .inl ⟨⟨hL, Nat.le_refl _⟩, hd H hp⟩
def rListOf (K : PySem.W.Frag) : List V → Hp → VK → Prop := fun xs H Q => ∃ p ys, xs = [.ref p] ∧ (SqL K H p ys ∨ SqT K H p ys) ∧ ∀ l, H l = none → Q (.ref l) (upd H l (.lst ys))
theorem call_listB (K : PySem.W.Frag) {X : Cx} (hK : X.K = K := by rfl) : CallR X (.type "list") (rListOf K) := by
  subst hK; exact call_list_of
theorem len_two {α : Type} {L : List α} (h : L.length = 2) : ∃ a b, L = [a, b] :=
  match L, h with
  | [a, b], _ => ⟨a, b, rfl⟩
theorem two_names {ys : List Str} (p : ys.Perm ["c", "b"]) (s : sortedS ys = true) : ys = (["b", "c"] : List Str) := by
  have hl := p.length_eq
  match ys, hl with
  | [x, y], _ =>
    have mx : x ∈ (["c", "b"] : List Str) := p.mem_iff.mp (by simp)
    have my : y ∈ (["c", "b"] : List Str) := p.mem_iff.mp (by simp)
    have nd : ([x, y] : List Str).Nodup := p.nodup_iff.mpr (by decide)
    rcases List.mem_cons.mp mx with ex | mx
    · rcases List.mem_cons.mp my with ey | my
      · subst ex; subst ey; simp at nd
      · have ey := List.mem_singleton.mp my
        subst ex; subst ey
        exact absurd s (by decide +kernel)
    · have ex := List.mem_singleton.mp mx
      rcases List.mem_cons.mp my with ey | my
      · subst ex; subst ey; rfl
      · have ey := List.mem_singleton.mp my
        subst ex; subst ey; simp at nd
abbrev kOf (ws : List Str) : List Key := ws.map Sum.inr
theorem kOf_V (ws : List Str) : (kOf ws).map kV = ws.map V.str := by rw [List.map_map]; rfl
theorem kOf_inj {a b : List Str} (h : kOf a = kOf b) : a = b := by
  have := congrArg (List.map (fun k : Key => match k with | .inr x => x | .inl _ => Str.empty)) h
  simpa [kOf, Function.comp_def] using this
theorem word_b : WordOk "b" := by unfold WordOk; decide +kernel
theorem word_c : WordOk "c" := by unfold WordOk; decide +kernel
/-- the circles at p -/
def CircAt (H : Hp) (p : Addr) (al : Prop) : Prop :=
  (al ∧ ∃ l, H p = some (.lst [.ref l]) ∧ LS H l ["b", "c"]) ∨ (¬ al ∧ ∃ l1 l2, H p = some (.lst [.ref l1, .ref l2]) ∧ LS H l1 ["b"] ∧ LS H l2 ["c"])
theorem seats_keys {H : Hp} {sd : Addr} {kvs : List (Key × V)} {L : List (Str × Nat)} (S : SeatsAt H sd kvs L) : kvs.map (·.1) = (L.map Prod.fst).map Sum.inr := by
  refine List.ext_getElem? fun i => ?_
  rw [List.getElem?_map, List.getElem?_map, List.getElem?_map]
  cases e : L[i]? with
  | none =>
    have : kvs[i]? = none := List.getElem?_eq_none (by rw [S.len]; exact List.getElem?_eq_none_iff.mp e)
    rw [this]; rfl
  | some z =>
    obtain ⟨x, n⟩ := z
    obtain ⟨q, dd, a, _⟩ := S.at_ i x n e
    rw [a]; rfl
/-- the table of circles behind i names -/
def CSt (H0 : Hp) (f : Addr) (A B : List Str) : Nat → Hp → Prop
  | 0, H => H f = some (.dT [])
  | 1, H => ∃ l1, H f = some (.dT [(kOf A, .ref l1)]) ∧ LS H l1 ["b"] ∧ H0 l1 = none
  | _, H => (A = B ∧ ∃ l1, H f = some (.dT [(kOf A, .ref l1)]) ∧ LS H l1 ["b", "c"]) ∨ (A ≠ B ∧ ∃ l1 l2, H f = some (.dT [(kOf A, .ref l1), (kOf B, .ref l2)]) ∧ LS H l1 ["b"] ∧ LS H l2 ["c"])
section
variable {P : Program} {w : World} {K : PySem.W.Frag} {mg : Str → Option Value} {base : Heap}
def spCi (K : PySem.W.Frag) : Sp := fun vs H Q _ => ∃ t pl said nc nb N, vs = [.ref t] ∧ Tk K H t pl said [("c", nc), ("b", nb)] N ∧ Few 4 said ∧ said.length ≤ 1000 ∧ ∀ H' p, Same H H' → CircAt H' p (Sim (said.drop nb) (said.drop nc)) → Q (.ref p) H'
theorem ok_circles (T : TX K mg) : CalM P w K mg base 10 "Talk" "circles" ["self"] (spCi K) := by
  have F := T.tk
  have Gh := ok_heard (P := P) (w := w) (base := base) T
  refine mk_calM (q := "Talk.circles") (st := s_Talk_circles) T 57 98 76 rfl rfl rfl sc_Talk_circles (fun _ _ _ _ _ _ us hl => match us, hl with | [_], _ => rfl) (fun vs H Q E h => ?_) (fun cdv A outer s H vs Q E hr h => ?_)
  · obtain ⟨t, pl, said, nc, nb, N, rfl, _⟩ := h; rfl
  obtain ⟨t, pl, said, nc, nb, N, rfl, tk, f4, hl, k⟩ := h
  refine ⟨_, pss_cons (ps_set (i := 1) sc_Talk_circles.nd rfl (.inl rfl) pe_dnewT)
    (pss_cons (ps_for PassesOwn.never rfl (pi_list (pe_callB (call_sortedD rfl) rfl (T.free 56 rfl) bo_sorted (pa_cons (pe_fld (pv 0) rfl) pa_nil))) (pg_name (i := 2) sc_Talk_circles.nd rfl (.inl rfl))
      (pss_one (ps_expr (pe_bm PySem.F.plainAttrs_list PySem.F.slot_list_append PySem.F.type_list_append mt_append
        (pe_bm PySem.F.plainAttrs_dict PySem.F.slot_dict_setdefault PySem.F.type_dict_setdefault (mt_setdT (hu_of hr)) (pv 1) (pa_cons (pe_callTy call_tuple_of rfl (T.free 63 rfl) bo_tuple (pa_cons (pm (pv 0) Gh hr (pa_cons (pv 2) pa_nil)) pa_nil)) (pa_cons (pe_lst pa_nil) pa_nil)))
        (pa_cons (pv 2) pa_nil)))))
    (pss_one (ps_ret (pe_callB (cr_sortLL hr.units) rfl (T.free 56 rfl) bo_sorted (pa_cons (pe_lock (pe_lc (own := [("names", 3)]) rfl sc_Talk_circles.nd (pi_valuesT (pv 1)) (blk (N := N_Talk_circles) (sc := defScope s_Talk_circles) (by decide +kernel)) (fun _ _ _ _ _ => pg_name (i := 3) sc_Talk_circles.nd rfl (.inl rfl)) (fun _ _ _ _ _ => pts_nil)
      (fun _ _ _ _ _ => pe_callTy (call_listB K) rfl (T.free 54 rfl) bo_list (pa_cons (pv 3) pa_nil)))) pa_nil))))), ?_⟩
  obtain ⟨dx, sp, sd, cl, past, kvs, D⟩ := id tk
  refine fun f nf => ?_
  have s1 := same_new (o := .dT []) nf
  have hf1 : upd H f (.dT []) f = some (.dT []) := upd_same
  generalize upd H f (.dT []) = H1 at s1 hf1
  refine ⟨_, rfl, t, _, dx, _, _, rfl, s1 _ _ D.obj, F.cl, F.na2, rfl, sd, kvs, ["c", "b"], rfl, .inl (s1 _ _ D.seat.dict), seats_keys D.seat, by simp, fun ys p pm so np => ?_⟩
  have ey := two_names pm so
  subst ey
  have s2 : Same H (upd H1 p (.lst ((["b", "c"] : List Str).map V.str))) := s1.new np
  have hf2 := same_new (o := .lst ((["b", "c"] : List Str).map V.str)) np _ _ hf1
  have hp2 : LS (upd H1 p (.lst ((["b", "c"] : List Str).map V.str))) p ["b", "c"] := upd_same
  have npH : H p = none := s1.free np
  generalize upd H1 p (.lst ((["b", "c"] : List Str).map V.str)) = H2 at s2 hf2 hp2
  -- a listener's turn, as far as the call of setdefault
  have turn : ∀ (H3 : Hp) (y : Str) (n : Nat) (v : Option V) (R : VK) , Same H H3 → (y, n) ∈ [(("c" : Str), nc), ("b", nb)] → WordOk y →
      (∀ H5 q l, Same H3 H5 → H3 l = none → H5 q = some (.tup ((short (said.drop n)).map V.str)) → H5 l = some (.lst []) → rSetdT (.ref f) [.ref q, .ref l] H5 R) →
      (tCons (tCB (fun xs H Q => ∃ p ys, xs = [.ref p] ∧ ((SqL K H p ys ∧ ∀ l, H l = none → Q (.ref l) (upd H l (.tup ys))) ∨ (SqT K H p ys ∧ Q (.ref p) H))) (tCons (tMeth (He.ga K "Talk") "heard" (spHd K) [] E0 (tVar 0) (tCons (tVar 2) tNil)) tNil)) (tCons (tLst tNil) tNil)) [some (.ref t), some (.ref f), some (.str y), v] H3 (fun xs H4 => rSetdT (.ref f) xs H4 R) := by
    intro H3 y n v R s3 hy wy hR
    refine ⟨_, rfl, t, dx, _, rfl, s3 _ _ D.obj, rfl, _, rfl, t, pl, said, _, N, y, n, rfl, tk.mono s3, (by decide : (["c", "b"] : List Str).Nodup), hy, wy, hl, f4, fun H4 h s4 nh hh => ?_⟩
    refine ⟨h, _, rfl, .inl ⟨SqL.of hh, fun q nq => ⟨by decide, fun l nl => ?_⟩⟩⟩
    have sQ := s4.new (o := .tup ((short (said.drop n)).map V.str)) nq
    exact hR _ q l (sQ.new nl) (sQ.free nl) (same_new nl _ _ upd_same) upd_same
  refine ⟨p, rfl, ⟨_, SqL.of hp2⟩, for_list (K := K) (a := p) (xs := (["b", "c"] : List Str).map V.str) (fun i σ H3 => (∃ v w, σ = [some (.ref t), some (.ref f), v, w]) ∧ Same H H3 ∧ LS H3 p ["b", "c"] ∧ CSt H f (short (said.drop nb)) (short (said.drop nc)) i H3)
    ⟨⟨_, _, rfl⟩, s2, hp2, hf2⟩ (fun i σ H3 _ h3 => SqL.of h3.2.2.1) ?_ ?_⟩
  · rintro i y σ H3 hi ⟨⟨v, w', rfl⟩, s3, hp3, hc⟩
    match i, hi with
    | 0, hi =>
      cases hi
      have hc : H3 f = some (.dT []) := hc
      refine ⟨_, rfl, .inr (.inr (.inl ⟨rfl, .inr ⟨_, hc⟩⟩)), turn H3 "b" nb _ _ s3 (by simp) word_b fun H5 q l s5 nl hq hl5 => ?_⟩
      refine ⟨f, [], kOf (short (said.drop nb)), q, .ref l, rfl, rfl, s5 _ _ hc, by rw [kOf_V]; exact hq, by decide, fun v hv => absurd hv (by rw [valV_nil]; exact fun h => nomatch h), fun _ => ?_⟩
      have hlf : l ≠ f := fun e => by subst e; rw [hc] at nl; cases nl
      have hlp : l ≠ p := fun e => by subst e; have : H3 l = _ := hp3; rw [nl] at this; cases this
      have h6 : upd H5 f (.dT (putK [] (kOf (short (said.drop nb))) (.ref l))) l = some (.lst []) := by rw [upd_ne hlf]; exact hl5
      refine ⟨.inl ⟨rfl, _, SqL.of h6⟩, _, rfl, l, [], _, rfl, rfl, h6, by decide, ⟨_, _, rfl⟩, ((s3.trans s5).put nf).put (s3.free nl), ?_, l, ?_, ?_, s3.free nl⟩
      · show upd _ _ _ _ = _
        rw [upd_ne hlp.symm, upd_ne (fun e => by subst e; have : H3 p = _ := hp3; rw [hc] at this; cases this)]
        exact s5 _ _ hp3
      · rw [upd_ne hlf.symm, upd_same]; rfl
      · show upd _ _ _ _ = _
        rw [upd_same]; rfl
    | 1, hi =>
      cases hi
      obtain ⟨l1, hc, hb, n1⟩ : ∃ l1, H3 f = some (.dT [(kOf (short (said.drop nb)), .ref l1)]) ∧ LS H3 l1 ["b"] ∧ H l1 = none := hc
      refine ⟨_, rfl, .inr (.inr (.inl ⟨rfl, .inr ⟨_, hc⟩⟩)), turn H3 "c" nc _ _ s3 (by simp) word_c fun H5 q l s5 nl hq hl5 => ?_⟩
      have hlf : l ≠ f := fun e => by subst e; rw [hc] at nl; cases nl
      have hlp : l ≠ p := fun e => by subst e; have : H3 l = _ := hp3; rw [nl] at this; cases this
      have hl1f : l1 ≠ f := fun e => by subst e; have : H3 l1 = _ := hb; rw [hc] at this; cases this
      have hl1p : l1 ≠ p := fun e => by
        subst e
        have a1 : H3 l1 = some (.lst ((["b"] : List Str).map V.str)) := hb
        have a2 : H3 l1 = some (.lst ((["b", "c"] : List Str).map V.str)) := hp3
        rw [a1] at a2
        have := congrArg List.length (HO.lst.inj (Option.some.inj a2))
        simp at this
      have hpf : p ≠ f := fun e => by subst e; have : H3 p = _ := hp3; rw [hc] at this; cases this
      have hll : l ≠ l1 := fun e => by subst e; have : H3 l = _ := hb; rw [nl] at this; cases this
      refine ⟨f, [(kOf (short (said.drop nb)), .ref l1)], kOf (short (said.drop nc)), q, .ref l, rfl, rfl, s5 _ _ hc, by rw [kOf_V]; exact hq, small_line' (by simp), fun v hv => ?_, fun hv => ?_⟩
      · obtain ⟨hk, ev⟩ : kOf (short (said.drop nb)) = kOf (short (said.drop nc)) ∧ v = .ref l1 := by
          by_cases hk : kOf (short (said.drop nb)) = kOf (short (said.drop nc))
          · rw [valV_pos (p := (kOf (short (said.drop nb)), V.ref l1)) hk] at hv
            exact ⟨hk, (Option.some.inj hv).symm⟩
          · rw [valV_neg (p := (kOf (short (said.drop nb)), V.ref l1)) hk] at hv
            cases hv
        subst ev
        have hb5 : H5 l1 = some (.lst ((["b"] : List Str).map V.str)) := s5 _ _ hb
        refine ⟨.inl ⟨rfl, _, SqL.of hb5⟩, _, rfl, l1, _, _, rfl, rfl, hb5, by decide, ⟨_, _, rfl⟩, (s3.trans s5).put n1, ?_, .inl ⟨kOf_inj hk, l1, ?_, ?_⟩⟩
        · show upd _ _ _ _ = _
          rw [upd_ne hl1p.symm]; exact s5 _ _ hp3
        · rw [upd_ne hl1f.symm]; exact s5 _ _ hc
        · show upd _ _ _ _ = _
          rw [upd_same]; rfl
      · have hk : kOf (short (said.drop nb)) ≠ kOf (short (said.drop nc)) := fun hk => by
          rw [valV_pos (p := (kOf (short (said.drop nb)), V.ref l1)) hk] at hv
          cases hv
        rw [putK_new _ hv]
        have h6 : upd H5 f (.dT ([(kOf (short (said.drop nb)), .ref l1)] ++ [(kOf (short (said.drop nc)), .ref l)])) l = some (.lst []) := by rw [upd_ne hlf]; exact hl5
        refine ⟨.inl ⟨rfl, _, SqL.of h6⟩, _, rfl, l, [], _, rfl, rfl, h6, by decide, ⟨_, _, rfl⟩, ((s3.trans s5).put nf).put (s3.free nl), ?_, .inr ⟨fun e => hk (by rw [e]), l1, l, ?_, ?_, ?_⟩⟩
        · show upd _ _ _ _ = _
          rw [upd_ne hlp.symm, upd_ne hpf]; exact s5 _ _ hp3
        · rw [upd_ne hlf.symm, upd_same]; rfl
        · show upd _ _ _ _ = _
          rw [upd_ne hll.symm, upd_ne hl1f]; exact s5 _ _ hb
        · show upd _ _ _ _ = _
          rw [upd_same]; rfl
    | i + 2, hi => cases hi
  · rintro σ H3 ⟨⟨v, w', rfl⟩, s3, hp3, hc⟩
    have fin : ∀ (kvs2 : List (List Key × V)) (rows : List (Addr × List Str)), H3 f = some (.dT kvs2) → kvs2.length = rows.length → (∀ (i : Nat) (k : List Key) (v : V), kvs2[i]? = some (k, v) → ∃ l ns, rows[i]? = some (l, ns) ∧ v = .ref l ∧ LS H3 l ns) → rows.length ≤ 2 →
        (∀ L : List (Addr × List Str), L.map Prod.snd = rows.map Prod.snd → L.Pairwise (fun x y => PySem.W.dataLe false encP x y = true)) →
        (∀ H' q (L : List (Addr × List Str)), Same H H' → L.map Prod.snd = rows.map Prod.snd → H' q = some (.lst (L.map fun z => V.ref z.1)) → (∀ z ∈ L, LS H' z.1 z.2) → Q (.ref q) H') →
        (tCB (rSortLL K) (tCons (tLockE (tLc (iValsT (tVar 1)) (gName 3) tYes (tCB (rListOf K) (tCons (tVar 3) tNil)) [3])) tNil)) [some (.ref t), some (.ref f), v, w'] H3 Q := by
      intro kvs2 rows h3 hlen hrow h2 hsort hend
      refine ⟨f, .dT kvs2, h3, True.intro, fun od => ?_⟩
      have kl : ∀ b o, H3 b = some o → b ≠ f → upd H3 f (.frz od (.dT kvs2)) b = some o := fun b o h n => by rw [upd_ne n]; exact h
      have hfl : upd H3 f (.frz od (.dT kvs2)) f = some (.frz od (.dT kvs2)) := upd_same
      have unl : ∀ H4, Same (upd H3 f (.frz od (.dT kvs2))) H4 → Same H3 (upd H4 f (.dT kvs2)) := fun H4 s => s.unlock h3
      generalize upd H3 f (.frz od (.dT kvs2)) = HL at kl hfl unl
      refine ⟨_, rfl, f, od, kvs2, rfl, hfl, fun D nD => lc_valsT (fun i H4 => Same HL H4 ∧ ∃ L : List (Addr × List Str), L.length = i ∧ i ≤ 2 ∧ H4 D = some (.lst (L.map fun z => V.ref z.1)) ∧ L.map Prod.snd = (rows.take i).map Prod.snd ∧ ∀ z ∈ L, LS H4 z.1 z.2 ∧ z.1 ≠ D) ⟨same_new nD, [], rfl, by omega, upd_same, rfl, fun z hz => absurd hz List.not_mem_nil⟩ (fun i H4 h4 => h4.1 _ _ hfl) ?_ ?_⟩
      · rintro i ky vv H4 hk ⟨s4, L, e1, e2, h4, e3, e4⟩
        have hi := (List.getElem?_eq_some_iff.mp hk).1
        obtain ⟨l, ns, hr1, rfl, hls⟩ := hrow i ky vv hk
        have hls : H3 l = some (.lst (ns.map V.str)) := hls
        have hlf : l ≠ f := fun e => by subst e; rw [h3] at hls; cases hls
        have hl4 : H4 l = some (.lst (ns.map V.str)) := s4 _ _ (kl _ _ hls hlf)
        refine ⟨rfl, ?_⟩
        unfold tYes
        refine iteT ?_
        refine ⟨_, rfl, l, _, rfl, .inl (SqL.of hl4), fun m nm => ?_⟩
        have hmD : m ≠ D := fun e => by subst e; rw [h4] at nm; cases nm
        refine ⟨L.map fun z => V.ref z.1, same_new nm _ _ h4, small_line' (by rw [List.length_map]; omega), (s4.new nm).put nD, L ++ [(m, ns)], by rw [List.length_append, e1]; rfl, by omega, by rw [upd_same, List.map_append]; rfl, ?_, fun z hz => ?_⟩
        · rw [take_succ hr1, List.map_append, List.map_append, e3]; rfl
        · rcases List.mem_append.mp hz with hz | hz
          · obtain ⟨g1, g2⟩ := e4 z hz
            have g1 : H4 z.1 = some (.lst (z.2.map V.str)) := g1
            refine ⟨?_, g2⟩
            show upd _ _ _ _ = _
            rw [upd_ne g2, upd_ne (ne_of_none g1 nm)]; exact g1
          · rw [List.mem_singleton.mp hz]
            refine ⟨?_, hmD⟩
            show upd _ _ _ _ = _
            rw [upd_ne hmD, upd_same]
      · rintro H4 ⟨s4, L, e1, e2, h4, e3, e4⟩
        rw [hlen, List.take_length] at e3
        have hf4 := s4 _ _ hfl
        have hDf : D ≠ f := fun e => by subst e; rw [hfl] at nD; cases nD
        have s5 := unl H4 s4
        have h5 : upd H4 f (.dT kvs2) D = some (.lst (L.map fun z => V.ref z.1)) := by rw [upd_ne hDf]; exact h4
        have e5 : ∀ z ∈ L, LS (upd H4 f (.dT kvs2)) z.1 z.2 := fun z hz => by
          have g1 : H4 z.1 = some (.lst (z.2.map V.str)) := (e4 z hz).1
          show upd _ _ _ _ = _
          rw [upd_ne (fun e => by rw [e, hf4] at g1; cases g1)]; exact g1
        refine ⟨hf4, D, L, rfl, SqL.of h5, e5, by omega, hsort L e3, fun q nq => ?_⟩
        exact hend _ q L ((s3.trans s5).new nq) e3 upd_same fun z hz => same_new nq _ _ (e5 z hz)
    have hc : (short (said.drop nb) = short (said.drop nc) ∧ ∃ l1, H3 f = some (.dT [(kOf (short (said.drop nb)), .ref l1)]) ∧ LS H3 l1 ["b", "c"]) ∨ (short (said.drop nb) ≠ short (said.drop nc) ∧ ∃ l1 l2, H3 f = some (.dT [(kOf (short (said.drop nb)), .ref l1), (kOf (short (said.drop nc)), .ref l2)]) ∧ LS H3 l1 ["b"] ∧ LS H3 l2 ["c"]) := hc
    rcases hc with ⟨ea, l1, h1, h2⟩ | ⟨ea, l1, l2, h1, h2, h3⟩
    · refine fin _ [(l1, ["b", "c"])] h1 rfl (fun i ky vv hk => ?_) (by simp) (fun L hL => ?_) fun H' q L sH hL hq hz => ?_
      · match i, hk with
        | 0, hk => cases hk; exact ⟨l1, _, rfl, rfl, h2⟩
        | i + 1, hk => cases hk
      · obtain ⟨z, rfl⟩ := List.length_eq_one_iff.mp (show L.length = 1 by simpa using congrArg List.length hL)
        exact List.pairwise_singleton _ _
      · obtain ⟨⟨a1, n1⟩, rfl⟩ := List.length_eq_one_iff.mp (show L.length = 1 by simpa using congrArg List.length hL)
        · cases hL
          exact k H' q sH (.inl ⟨ea, a1, hq, hz (a1, _) List.mem_cons_self⟩)
    · refine fin _ [(l1, ["b"]), (l2, ["c"])] h1 rfl (fun i ky vv hk => ?_) (by simp) (fun L hL => ?_) fun H' q L sH hL hq hz => ?_
      · match i, hk with
        | 0, hk => cases hk; exact ⟨l1, _, rfl, rfl, h2⟩
        | 1, hk => cases hk; exact ⟨l2, _, rfl, rfl, h3⟩
        | i + 2, hk => cases hk
      · obtain ⟨⟨a1, n1⟩, ⟨a2, n2⟩, rfl⟩ := len_two (show L.length = 2 by simpa using congrArg List.length hL)
        · cases hL
          refine List.pairwise_cons.mpr ⟨fun y hy => ?_, List.pairwise_singleton _ _⟩
          rw [List.mem_singleton.mp hy]
          show (!PySem.W.dataLt (encT ["c"]) (encT ["b"])) = true
          decide +kernel
      · obtain ⟨⟨a1, n1⟩, ⟨a2, n2⟩, rfl⟩ := len_two (show L.length = 2 by simpa using congrArg List.length hL)
        · cases hL
          exact k H' q sH (.inr ⟨ea, a1, a2, hq, hz (a1, _) List.mem_cons_self, hz (a2, _) (List.mem_cons_of_mem _ List.mem_cons_self)⟩)
end
end Tw
end
section
/-! text T6 -/
set_option maxHeartbeats 4000000
namespace Tw
open PySem PySem.Spec PyProof.Rows L2 LamX NdefX
section
variable {X : Cx} {pins : List (Addr × Obj)} {σ : L2.St} {H : Hp} {s : Shared}
/-- the words of a lambda, as of a nested def -/
abbrev lamF (X : Cx) (params : Arguments) (scope : Scope) (c' : Addr) : NF := ⟨"<lambda>", X.env.qual ++ "<lambda>", params, [], scope, cloFrom X.env.cells scope.names [], c'⟩
/-- x(e), x a parameter that holds a lambda of one parameter which the caller made: Z is the running def's context, entered at s -/
theorem pe_act1 {Ng Nl fr : List Str} {js : List Nat} {qg : Str} {sg : Scope} {g f c' : Addr} {cdg pm ctv : Value} {params : Arguments} {body e : Expr} {scope : Scope} {k i : Nat} {a z : Str} {ta : TA} {tb : TE} {p1 p2 : Pos}
    (I : Inv X pins σ H s) (S : NScope Nl [z] fr scope) (cp : Caps X (cloFrom X.env.cells scope.names []) fr js)
    (hf : s.heap.get? f = some (PySem.W.kla_obj "<lambda>" (X.env.qual ++ "<lambda>") params body scope (cloFrom X.env.cells scope.names []) pm c' ctv)) (hfn : H f = none) (hfr : f ∉ frs X.stack)
    (hbind : ∀ u : Value, bindArgs (PySem.W.kla_fn "<lambda>" (X.env.qual ++ "<lambda>") params body scope (cloFrom X.env.cells scope.names []) pm (.ref c') ctv) ⟨[u], []⟩ = pure [(z, u)])
    (hr : Room (k + 1) (X.A.deeper (envOfC qg sg s.heap.objs.size g cdg)))
    (hbody : ∀ (A : Around) (outer : List Env) (s : Shared) (H : Hp), Room k (A.deeper (envF (lamF X params scope c') f s.heap.objs.size)) → PE (ncx CX0 X.prog X.w X.K X.mg X.base Nl (lamF X params scope c') f A outer s H E0) body tb)
    (hN : Ng[i]? = some a) (hv : Vis sg a) (ha : PA (cxOf CX0 X.prog X.w X.K X.mg X.base Ng qg sg g cdg X.A X.stack s H E0).nox [e] ta)
    (hd : (a == ("__debug__" : Str)) = false := by decide) (hcd : (a == ("__classdict__" : Str)) = false := by decide)
    (hst : starEach [e] (envOfC qg sg s.heap.objs.size g cdg) = (false, eval e (envOfC qg sg s.heap.objs.size g cdg)) :: starEach [] (envOfC qg sg s.heap.objs.size g cdg) := by rfl) :
    PE (cxOf CX0 X.prog X.w X.K X.mg X.base Ng qg sg g cdg X.A X.stack s H E0).nox (.Call (.Name a p1) [e] [] p2)
      (fun σZ HZ Q => σZ[i]? = some (some (.ref f)) ∧ ta σZ HZ fun vs H1 => ∃ v, vs = [v] ∧ H1 c' = some (CodeO c' (X.env.qual ++ "<lambda>")) ∧ tb (startF Nl [v] (js.map (slotAt σ))) H1 Q) := by
  refine ⟨fun pinsZ sZ σZ HZ Q IZ h => ?_⟩
  obtain ⟨hs, h⟩ := h
  refine wpAny_Call_Name_kw (thn ((pe_var (pos := p1) (i := i) hN hv hd hcd).run pinsZ sZ σZ HZ (fun v H1 => v = .ref f ∧ H1 = HZ) IZ ⟨.ref f, hs, rfl, rfl⟩) fun u s1 ⟨v, H1, I1, r1, q1⟩ => ?_)
  obtain ⟨ev, eH⟩ := q1
  subst ev
  rw [eH] at I1
  obtain rfl : u = Value.ref f := r1
  have ofn : ∀ {pins2 : List (Addr × Obj)} {σ2 : L2.St} {H2 : Hp} {s2 : Shared}, Inv (cxOf CX0 X.prog X.w X.K X.mg X.base Ng qg sg g cdg X.A X.stack s H E0).nox pins2 σ2 H2 s2 → s2.heap.get? f = some (PySem.W.kla_obj "<lambda>" (X.env.qual ++ "<lambda>") params body scope (cloFrom X.env.cells scope.names []) pm c' ctv) :=
    fun I2 => I2.base.keep f _ hf hfn hfr (fun z => nomatch (show f ∈ ([] : List Addr) from z))
  refine PySem.W.callWith_F (first := []) ⟨_, _, _, _, ofn I1⟩ (thn (ha.run p2 pinsZ s1 σZ HZ _ I1 h) fun us s2 ⟨vs, H2, I2, r, q⟩ => ⟨⟨_, _, _, _, ofn I2⟩, ?_⟩) hst (by rfl)
  obtain ⟨v, rfl, hc, ht⟩ := q
  have un : Un (frs X.stack) [] H H2 s.heap s2.heap := I2.base
  have C0 := cells_of I cp
  have cellK : ∀ {c : Addr} {v : Option Value}, H c = none → s.heap.IsCell c v → s2.heap.IsCell c v := fun {c v} n ⟨o, ho, hd⟩ => by
    obtain ⟨sl, q⟩ := un.any ho n (by simp)
    exact ⟨_, q, hd⟩
  have C2 : CellsAt (cloFrom X.env.cells scope.names []) fr (js.map (slotAt σ)) s2.heap H2 := by
    refine ⟨C0.len, fun y c e => ?_, C0.inj, fun i y e => ?_⟩
    · obtain ⟨n, v, z⟩ := C0.all y c e
      refine ⟨?_, v, cellK n z⟩
      obtain ⟨o, ho, _⟩ := z
      exact un.free c o ho n (by simp)
    · obtain ⟨c, hc, hv⟩ := C0.has i y e
      refine ⟨c, hc, fun v ev => ?_⟩
      obtain ⟨u, r, z⟩ := hv v ev
      exact ⟨u, r, cellK (C0.all y c hc).1 z⟩
  obtain ⟨⟨oc, vs, t, hoc, hdc, hvc⟩, _, _⟩ := I2.hok c' _ hc
  obtain ⟨uv, rfl⟩ : ∃ uv, us = [uv] := by
    have := r.length
    match us, this with
    | [uv], _ => exact ⟨uv, rfl⟩
  show wpAny _ _ (call (.ref f) [uv]) _ _ s2
  have rc : codeAny (model X.prog X.w) (X.A.deeper (envOfC qg sg s.heap.objs.size g cdg)) (.call (.ref f) ⟨[uv], []⟩) (CR CX0 (envOfC qg sg s.heap.objs.size g cdg :: X.stack) X.prog X.w H2 s2 Q E0) s2 := by
    refine PySem.W.kla_callFunE hr.depth (ofn I2) rfl S.co S.gen rfl ⟨c', oc, vs, t, rfl, hoc, hdc, hvc⟩ ?_
    rw [hbind]
    refine wpAny_pure (wpAny_newFunctionEnv S.nocell (fun ⟨n, w⟩ hy => ?_) (fun h₁ hns hsb => ⟨I2.nolimit.fresh _ hsb, ?_⟩) S.kind)
    · obtain ⟨rfl, -⟩ : n = z ∧ w = uv := by simpa using hy
      exact S.par n List.mem_cons_self
    show codeAny _ _ (.expr body (envF (lamF X params scope c') f s2.heap.objs.size)) _ _
    have kp : ∀ b o, s2.heap.get? b = some o → h₁.get? b = some o := fun b o e => hsb.extBut b o (Nat.ne_of_lt (Heap.lt_size e)) (Heap.get?_push_of_some _ e)
    have J := inv_startN (CX := CX0) (N := Nl) (F := lamF X params scope c') (f := f) (E := E0) (h₁ := h₁) (tk := s2.toks + ([(z, uv)] : List (Str × Value)).length) (vs := [v]) (us := [uv]) S hr.hd I2.env0 rfl r C2 hns kp
    refine PySem.W.kla_codeExpr (wpAny_mono ((hbody _ _ s2 H2 (hr.deeper _)).run [] _ _ H2 Q J ht) (fun v s' hq => ?_) fun e s' hq => hq)
    obtain ⟨w', H', J', rv, q⟩ := hq
    exact ⟨w', H', J'.os, J'.bare, J'.base, J'.hok, rv, q⟩
  refine wpAny_call (codeAny_mono rc fun r s' hq => ?_)
  cases r with
  | error e => exact (show False from hq).elim
  | ok fl =>
    cases fl with
    | ret u => exact I2.after hq
    | next => exact False.elim hq
    | brk => exact False.elim hq
    | cont => exact False.elim hq
end
end Tw
end
section
/-! text T7 -/
set_option maxHeartbeats 4000000
namespace Tw
open PySem PySem.Spec PyProof.Rows L2 LamX NdefX
/-- what least_so asks of what it is given: tl is the reading of the given function's call -/
def TLeast (tl : V → Hp → VK → Prop) (a b : V) (H : Hp) (Q : VK) : Prop :=
  ∃ (lo hi : Nat) (p : Nat → Bool), a = .int lo ∧ b = .int hi ∧ lo ≤ hi ∧ hi ≤ 1000 ∧ p hi = true ∧
    (∀ (k : Nat) (H' : Hp) (R : VK), lo ≤ k → k < hi → Same H H' → (∀ H'', Same H' H'' → R (.bl (p k)) H'') → tl (.int k) H' R) ∧
    (∀ (r : Nat) (H' : Hp), Same H H' → lo ≤ r → r ≤ hi → p r = true → (r = lo ∨ p (r - 1) = false) → Q (.int r) H')
section
variable {P : Program} {w : World} {K : PySem.W.Frag} {mg : Str → Option Value} {base : Heap}
theorem least_body {g f c' : Addr} {cdg : Value} {A : Around} {outer : List Env} {s : Shared} {H : Hp} {q : Str} {tl : V → Hp → VK → Prop} {a b : V} {Q : VK}
    (act : ∀ (e : Expr) (ta : TA) (p1 p2 : Pos), PA (cxOf CX0 P w K mg base N_least_so "least_so" (defScope s_least_so) g cdg A outer s H E0).nox [e] ta → starEach [e] (envOfC "least_so" (defScope s_least_so) s.heap.objs.size g cdg) = (false, eval e (envOfC "least_so" (defScope s_least_so) s.heap.objs.size g cdg)) :: starEach [] (envOfC "least_so" (defScope s_least_so) s.heap.objs.size g cdg) →
      PE (cxOf CX0 P w K mg base N_least_so "least_so" (defScope s_least_so) g cdg A outer s H E0).nox (.Call (.Name "is_so" p1) [e] [] p2) (fun σZ HZ Q => σZ[2]? = some (some (.ref f)) ∧ ta σZ HZ fun vs H1 => ∃ v, vs = [v] ∧ H1 c' = some (CodeO c' q) ∧ tl v H1 Q))
    (hc : H c' = some (CodeO c' q)) (h : TLeast tl a b H Q) :
    ∃ t, PSs (cxOf CX0 P w K mg base N_least_so "least_so" (defScope s_least_so) g cdg A outer s H E0).nox (defBody s_least_so) t ∧ t { nx := fun _ H' => Q .non H', rt := Q } (start N_least_so [a, b, .ref f]) H := by
  obtain ⟨lo, hi, p, rfl, rfl, hle, h1000, hp, hk, k⟩ := h
  refine ⟨_, pss_cons (ps_while PassesOwn.never (pt_cmpR op_lt (pv 0) (pv 1) (nomark _))
      (pss_cons (ps_set (i := 3) sc_least_so.nd rfl (.inl rfl) (pe_op op_fdiv (pe_op op_add (pv 0) (pv 1)) pe_int))
      (pss_one (ps_if (pt_val (act _ _ _ _ (pa_cons (pv 3) pa_nil) rfl)) (pss_one (ps_set (i := 1) sc_least_so.nd rfl (.inl rfl) (pv 3))) (pss_one (ps_set (i := 0) sc_least_so.nd rfl (.inl rfl) (pe_op op_add (pv 3) pe_int)))))))
    (pss_one (ps_ret (pv 0))), ?_⟩
  refine ⟨fun m σ H2 => ∃ (l h : Nat) (v : Option V), m = h - l ∧ σ = [some (.int l), some (.int h), some (.ref f), v] ∧ Same H H2 ∧ lo ≤ l ∧ l ≤ h ∧ h ≤ hi ∧ p h = true ∧ (l = lo ∨ p (l - 1) = false), ⟨_, lo, hi, none, rfl, rfl, .refl _, Nat.le_refl _, hle, Nat.le_refl _, hp, .inl rfl⟩, ?_⟩
  rintro m σ H2 ⟨l, h, v, rfl, rfl, s2, h1, h2, h3, h4, h5⟩
  refine ⟨_, rfl, _, rfl, l, h, rfl, rfl, _, rfl, ?_⟩
  by_cases e : l < h
  · refine iteTb (decide_eq_true (by omega)) ?_
    refine ⟨fun σ' H' => ∃ (l' h' : Nat) (v : Option V), h' - l' < h - l ∧ σ' = [some (.int l'), some (.int h'), some (.ref f), v] ∧ Same H H' ∧ lo ≤ l' ∧ l' ≤ h' ∧ h' ≤ hi ∧ p h' = true ∧ (l' = lo ∨ p (l' - 1) = false), fun σ' H' ⟨l', h', v, a0, a1⟩ => ⟨_, a0, l', h', v, rfl, a1⟩, ?_⟩
    refine ⟨_, rfl, _, rfl, _, _, rfl, rfl, _, 2, rfl, rfl, ⟨by decide, by decide⟩, ?_⟩
    show gName 3 (V.int (((l : Int) + (h : Int)) / 2)) _ _ _
    have em : ((l : Int) + (h : Int)) / 2 = (((l + h) / 2 : Nat) : Int) := by omega
    rw [em]
    refine ⟨rfl, _, rfl, _, rfl, s2 _ _ hc, ?_⟩
    refine hk _ H2 _ (by omega) (by omega) s2 fun H3 s3 => ⟨_, rfl, ?_⟩
    cases hb : p ((l + h) / 2) with
    | true =>
      refine iteT ⟨_, rfl, l, (l + h) / 2, _, by omega, rfl, s2.trans s3, h1, by omega, by omega, hb, h5⟩
    | false =>
      refine iteF ⟨_, rfl, _, _, rfl, rfl, ?_⟩
      have e1 : (((l + h) / 2 : Nat) : Int) + 1 = (((l + h) / 2 + 1 : Nat) : Int) := by omega
      show gName 0 (V.int ((((l + h) / 2 : Nat) : Int) + 1)) _ _ _
      rw [e1]
      exact ⟨(l + h) / 2 + 1, h, _, by omega, rfl, s2.trans s3, by omega, by omega, h3, h4, .inr hb⟩
  · refine iteFb (decide_eq_false (by omega)) ⟨_, rfl, ?_⟩
    have : l = h := by omega
    subst this
    exact k l H2 s2 h1 h3 h4 h5
end
end Tw
end
section
/-! text T8 -/
set_option maxHeartbeats 4000000
namespace Tw
open PySem PySem.Spec PyProof.Rows L2 LamX NdefX
/-- least_so(a, b, lambda z: body) -/
def tLam3 (T : List (Addr × Str)) (Nl : List Str) (js : List Nat) (t1 t2 tb : TE) : TE := fun σ H Q => t1 σ H fun a H1 => t2 σ H1 fun b H2 => Tabs T H2 ∧ ∀ H3, ExtN H2 H3 → Tabs T H3 → TLeast (fun v H' R => tb (startF Nl [v] (js.map (slotAt σ))) H' R) a b H3 Q
theorem codeIn_ref {K : PySem.W.Frag} {cdv : Value} {q : Str} (h : PySem.W.codeIn K cdv q = true) : ∃ c, cdv = .ref c := by
  unfold PySem.W.codeIn at h
  split at h
  · exact ⟨_, rfl⟩
  · cases h
theorem fnD_code {K : PySem.W.Frag} {x q : Str} {params : Arguments} {body : List Stmt} {scope : Scope} {dvs : List V} {kws : List (Str × V)} {p : Str × Option Str} {fd : FuncData} (F : FunD K x q params body scope dvs kws (He.fAd K p) fd) :
    ∃ (oc : Value) (od : Option Addr) (dV kV doc pm : Value) (an : Option Addr) (ct : Value) (osl : Array (Option Value)), fd = PySem.W.fnOf x q params body scope dV kV doc pm an (.ref (He.codeOf K p)) ct ∧ K.lookup (He.fAd K p) = some ⟨oc, od, .func fd, osl⟩ ∧ PySem.W.codeIn K (.ref (He.codeOf K p)) q = true := by
  obtain ⟨oc, od, dV, kV, doc, pm, an, cdv, ct, osl, rfl, lk, hcd, _, _⟩ := F.ex
  obtain ⟨c, rfl⟩ := codeIn_ref hcd
  have e := He.codeOf_eq lk rfl
  subst e
  exact ⟨oc, od, dV, kV, doc, pm, an, ct, osl, rfl, lk, hcd⟩
section
variable {X : Cx}
theorem pe_least (TT : TX X.K X.mg) {T : List (Addr × Str)} {c P : Addr} {k : Nat} {Nl fr : List Str} {js : List Nat} {params : Arguments} {body e1 e2 : Expr} {scope : Scope} {t1 t2 tb : TE} {z : Str} {p lpos pos : Pos}
    (TB : TabB X.base X.mg c P) (hcode : X.env.code = .ref c) (hmT : (P, X.env.qual ++ "<lambda>") ∈ T) (hu : ∀ p ∈ T, p.1 = P → p.2 = X.env.qual ++ "<lambda>") (hr : Room (k + 2) X.A)
    (S : NScope Nl [z] fr scope) (hfree : ∀ y ∈ scope.names, y.2 = .free → X.env.scope.names.lookup y.1 = some .cell ∨ X.env.scope.names.lookup y.1 = some .free) (hfr : ∀ y ∈ fr, (y, NameKind.free) ∈ scope.names) (hjs : js.map (fun j => X.N[j]?) = fr.map some)
    (hdef : defaultsOf params X.env = ([], [])) (hbind : ∀ (q : Str) (cl : List (Str × Addr)) (pm cv ctv u : Value), bindArgs (PySem.W.kla_fn "<lambda>" q params body scope cl pm cv ctv) ⟨[u], []⟩ = pure [(z, u)])
    (h1 : PE X e1 t1) (h2 : PE X e2 t2)
    (hbody : ∀ (A : Around) (outer : List Env) (s : Shared) (H : Hp) (f c' : Addr), Room k (A.deeper (envF (lamF X params scope c') f s.heap.objs.size)) → PE (ncx CX0 X.prog X.w X.K X.mg X.base Nl (lamF X params scope c') f A outer s H E0) body tb)
    (hg : Gl X "least_so" := by rfl)
    (hs1 : starEach [e1, e2, .Lambda params body scope lpos] X.env = (false, eval e1 X.env) :: starEach [e2, .Lambda params body scope lpos] X.env := by rfl)
    (hs2 : starEach [e2, .Lambda params body scope lpos] X.env = (false, eval e2 X.env) :: (false, eval (.Lambda params body scope lpos) X.env) :: [] := by rfl) :
    PE X (.Call (.Name "least_so" p) [e1, e2, .Lambda params body scope lpos] [] pos) (tLam3 T Nl js t1 t2 tb) := by
  refine ⟨fun pins s σ H Q I h => ?_⟩
  obtain ⟨fd, F⟩ := TT.d.def_ 32 (d := d_least_so) rfl
  obtain ⟨oc, od, dV, kV, doc, pm0, an, ct, osl, rfl, lk, hcg⟩ := fnD_code F
  refine wpAny_Call_Name_kw (ld_glob I hg (TT.glo 32 rfl) ?_ (by decide))
  have hb : Binds X.K _ ["low", "high", "is_so"] [] := FunD.bindsN F (fun kV doc pm an cdv ct us hl => match us, hl with | [_, _, _], _ => rfl)
  refine PySem.W.callWith_K (h₀ := X.base) (e := e1) (rest := [e2, .Lambda params body scope lpos]) I.ok.mod.kin F.kp ?_ hs1 (by rw [hs2]; rfl)
  rw [hs1, hs2]
  show wpAny _ _ (spliced ((false, eval e1 X.env) :: (false, eval e2 X.env) :: (false, eval (.Lambda params body scope lpos) X.env) :: [])) _ _ s
  refine Calls.spliced_cons (thn (h1.run pins s σ H _ I h) fun u1 s1 ⟨v1, H1, I1, r1, q1⟩ => ?_)
  refine Calls.spliced_cons (thn (h2.run pins s1 σ H1 _ I1 q1) fun u2 s2 ⟨v2, H2, I2, r2, hT, q2⟩ => ?_)
  refine Calls.spliced_cons (lam_make2 I2 TB hcode hmT hu hT hdef (fun y hy e => (hfree y hy e).elim (fun z => I2.ok.has _ (.inl z)) fun z => I2.ok.has _ (.inr z)) fun f c' pm' ctv H3 s3 I3 eN T3 hf hfn hfs hco => ?_)
  refine Calls.spliced_nil ⟨I3.kIn, ?_⟩
  have cp : Caps X (cloFrom X.env.cells scope.names []) fr js := Caps.made I3.ok hfree hfr hjs
  have rc : codeAny (model X.prog X.w) X.A (.call (.ref (He.ga X.K "least_so")) ⟨[u1, u2, .ref f], []⟩) (CR CX0 X.stack X.prog X.w H3 s3 Q E0) s3 := by
    refine run_ofS (N := N_least_so) (ps := ["low", "high", "is_so"]) (us := [u1, u2, .ref f]) (vs := [v1, v2, .ref f]) lk hcg sc_least_so hr I3.env0 (hb s3 [u1, u2, .ref f] I3.kIn rfl) (.cons r1 (.cons r2 (.cons rfl .nil))) rfl fun hr' => ?_
    obtain ⟨t', ht', hq'⟩ := least_body (g := He.ga X.K "least_so") (f := f) (c' := c') (q := X.env.qual ++ "<lambda>") (tl := fun v H' R => tb (startF Nl [v] (js.map (slotAt σ))) H' R)
      (fun e ta p1 p2 ha hst => pe_act1 (i := 2) I3 S cp hf hfn hfs (hbind _ _ _ _ _) hr' (fun A outer s H hr2 => hbody A outer s H f c' hr2) rfl (.inl rfl) ha (by decide) (by decide) hst) hco (q2 H3 eN T3)
    exact ⟨t', ht'.nox, hq'⟩
  refine wpAny_call (codeAny_mono rc fun r s2 hq => ?_)
  cases r with
  | error e => exact (show False from hq).elim
  | ok fl =>
    cases fl with
    | ret u => exact I3.after hq
    | next => exact False.elim hq
    | brk => exact False.elim hq
    | cont => exact False.elim hq
end
end Tw
end
section
/-! text T9 -/
set_option maxHeartbeats 4000000
namespace Tw
open PySem PySem.Spec PyProof.Rows L2 LamX NdefX
theorem LS.extN {H H' : Hp} {a : Addr} {ws : List Str} (h : LS H a ws) (s : ExtN H H') : LS H' a ws := s _ _ h (fun _ e => by cases e)
theorem SeatsAt.extN {H H' : Hp} {sd : Addr} {kvs : List (Key × V)} {L : List (Str × Nat)} (h : SeatsAt H sd kvs L) (s : ExtN H H') : SeatsAt H' sd kvs L :=
  ⟨s _ _ h.dict (fun _ e => by cases e), h.len, fun i x n e => let ⟨q, dd, a, b, c⟩ := h.at_ i x n e; ⟨q, dd, a, s _ _ b (fun _ e => by cases e), s _ _ c (fun _ e => by cases e)⟩⟩
theorem Tk.extN {K : PySem.W.Frag} {H H' : Hp} {t pl : Addr} {said : List Str} {L : List (Str × Nat)} {N : Nat} (h : Tk K H t pl said L N) (s : ExtN H H') : Tk K H' t pl said L N :=
  let ⟨dx, sp, sd, cl, past, kvs, q⟩ := h
  ⟨dx, sp, sd, cl, past, kvs, ⟨s _ _ q.obj (fun _ e => by cases e), LS.extN q.spk s, s _ _ q.pst (fun _ e => by cases e), q.few, q.seat.extN s, q.ne, q.pr⟩⟩
theorem max_nat (a b : Nat) : (if (b : Int) > (a : Int) then (b : Int) else (a : Int)) = ((max a b : Nat) : Int) := by
  split <;> omega
abbrev kSince : Str × Option Str := ("Talk", some "since")
abbrev lamName : Str := ("Talk.since" : Str) ++ (".<locals>." : Str) ++ ("<lambda>" : Str)
theorem sc_lam_since : ∃ sc : Scope, True := ⟨⟨.function, [], false, false, []⟩, trivial⟩
theorem pmB (K : PySem.W.Frag) {X : Cx} {k : Nat} {m C : Str} {ps : List Str} {sp : Sp} {pos apos : Pos} {e o : Expr} {es : List Expr} {t : TA} {ta : TE} {pl : Sem Bool} (he : PE X o ta) (c : CalM X.prog X.w X.K X.mg X.base k C m ps sp) (hr : Room k X.A) (ha : PA X (e :: es) t) (hK : X.K = K := by rfl) (hst : starEach (e :: es) X.env = (false, eval e X.env) :: starEach es X.env := by rfl) (hpl : (backTo pos (starEach es X.env)).any (·.1) = false := by rfl)
    (ht : eval (.Call (.Attribute o m apos) (e :: es) [] pos) X.env = (do
      let q ← eval o X.env
      standAt apos.atName
      let (f, first) ← holding [q] (getMethod q m pl)
      callWith pos f first (backTo pos (starEach (e :: es) X.env)) (backToKw pos (keywordEach [] X.env))) := by rfl) :
    PE X (.Call (.Attribute o m apos) (e :: es) [] pos) (tMeth (He.ga K C) m sp [] E0 ta t) := by
  subst hK; exact pm he c hr ha hst hpl ht
section
variable {P : Program} {w : World} {K : PySem.W.Frag} {mg : Str → Option Value} {base : Heap}
def spSi (K : PySem.W.Frag) (Ts : List (Addr × Str)) : Sp := fun vs H Q _ => ∃ t pl said L N x n y m, vs = [.ref t, .str x, .str y] ∧ Tk K H t pl said L N ∧ Names L ∧ (x, n) ∈ L ∧ (y, m) ∈ L ∧ WordOk x ∧ WordOk y ∧ n ≤ said.length ∧ m ≤ said.length ∧ said.length ≤ 1000 ∧ Few 4 said ∧ Tabs Ts H ∧
  Sim (said.drop n) (said.drop m) ∧ ∀ H' r, ExtN H H' → Tabs Ts H' → max n m ≤ r → r ≤ said.length → Sim ((said.take r).drop n) ((said.take r).drop m) → (r = max n m ∨ ¬ Sim ((said.take (r - 1)).drop n) ((said.take (r - 1)).drop m)) → Q (.int r) H'
theorem CF.cut {said : List Str} {k n : Nat} (h : Few 4 said) (hl : said.length ≤ 1000) : CF 4 ((said.take k).drop n) :=
  ⟨by rw [List.length_drop, List.length_take]; omega, h.sub fun y hy => List.mem_of_mem_take (List.mem_of_mem_drop hy)⟩
theorem ok_since {Pt : Addr} (T : TX K mg) (TB : TabB base mg (He.codeOf K kSince) Pt) : CalM P w K mg base 12 "Talk" "since" ["self", "name", "other"] (spSi K [(Pt, lamName)]) := by
  have F := T.tk
  have Gb := ok_need_both (P := P) (w := w) (base := base) T
  have Gh := ok_heard_of (P := P) (w := w) (base := base) T
  have Ga := ok_alike (P := P) (w := w) (base := base) T
  obtain ⟨fd, FD⟩ := T.d.def_ 60 (d := d_Talk_since) rfl
  have hb : Binds K fd ["self", "name", "other"] [] := FunD.bindsN FD (fun kV doc pm an cdv ct us hl => match us, hl with | [_, _, _], _ => rfl)
  obtain ⟨oc, od, dV, kV, doc, pm0, an, ct, osl, rfl, lk, hcg⟩ := fnD_code FD
  refine ⟨⟨_, fn_of lk hcg sc_Talk_since (fun vs H Q E h => ?_) (fun A outer s H vs Q E hr h => ?_), hb⟩, F.cl, He.meth_ok (T.d.fact 101 rfl)⟩
  · obtain ⟨t, pl, said, L, N, x, n, y, m, rfl, _⟩ := h; rfl
  obtain ⟨t, pl, said, L, N, x, n, y, m, rfl, tk, nd, hx, hy, wx, wy, hn, hm, hl, f4, hT, hsim, k⟩ := h
  suffices hh : ∃ t_1, PSs (cxOf CX0 P w K mg base N_Talk_since "Talk.since" (defScope s_Talk_since) (He.ma K (He.ga K "Talk") "since") (.ref (He.codeOf K kSince)) A outer s H E).nox (defBody s_Talk_since) t_1 ∧ t_1 { nx := fun _ H' => Q .non H', rt := Q } (start N_Talk_since [.ref t, .str x, .str y]) H by
    obtain ⟨t1, a1, a2⟩ := hh
    exact ⟨t1, a1.nox, a2⟩
  refine ⟨_, pss_cons (ps_expr (pm (pv 0) Gb (hr.mono (by omega)) (pa_cons (pv 1) (pa_cons (pv 2) pa_nil))))
    (pss_cons (ps_set (i := 3) sc_Talk_since.nd rfl (.inl rfl) (plen T (pe_fld (pv 0) rfl)))
    (pss_cons (ps_if (pt_not (pt_val (pc Ga (hr.mono (by omega)) (pa_cons (pm (pv 0) Gh (hr.mono (by omega)) (pa_cons (pv 1) (pa_cons (pv 3) pa_nil))) (pa_cons (pm (pv 0) Gh (hr.mono (by omega)) (pa_cons (pv 2) (pa_cons (pv 3) pa_nil))) pa_nil))))) pss_never pss_nil)
    (pss_cons (ps_set (i := 4) sc_Talk_since.nd rfl (.inl rfl) (pe_callB (call_max2 rfl) rfl (T.free 58 rfl) boot_max (pa_cons (pe_ix ix_tup (pe_dget (hu_of hr) (pe_fld (pv 0) rfl) (pv 1) (fun _ _ => rfl)) pe_int (fun _ _ => rfl)) (pa_cons (pe_ix ix_tup (pe_dget (hu_of hr) (pe_fld (pv 0) rfl) (pv 2) (fun _ _ => rfl)) pe_int (fun _ _ => rfl)) pa_nil))))
    (pss_one (ps_ret (pe_least (k := 9) (Nl := ["k", "self", "name", "other"]) (fr := ["self", "name", "other"]) (js := [0, 1, 2]) (z := "k") T TB rfl (T := [(Pt, lamName)]) List.mem_cons_self (fun p hp _ => by rw [List.mem_singleton.mp hp]; rfl) hr
      (nscope_by (by decide +kernel)) (ndef_free (sc := defScope s_Talk_since) (fr := ["self", "name", "other"]) (by decide +kernel)) (ndef_fr (sc := defScope s_Talk_since) (by decide +kernel)) rfl rfl (fun _ _ _ _ _ _ => rfl) (pv 4) (pv 3)
      (fun A outer s H f c' hr2 => pc Ga hr2 (pa_cons (pmB K (pv 1) Gh (hr2.mono (by omega)) (pa_cons (pv 2) (pa_cons (pv 0) pa_nil))) (pa_cons (pmB K (pv 1) Gh (hr2.mono (by omega)) (pa_cons (pv 3) (pa_cons (pv 0) pa_nil))) pa_nil))))))))), ?_⟩
  obtain ⟨dx0, sp0, sd0, cl0, past0, kvs0, D0⟩ := id tk
  refine ⟨_, rfl, t, dx0, _, rfl, D0.obj, rfl, _, rfl, _, rfl, t, pl, said, L, N, x, n, y, m, rfl, tk, nd, hx, hy, wx, wy, fun H1 s1 => ?_⟩
  have tk1 := tk.mono s1
  obtain ⟨dx, sp, sd, cl, past, kvs, D⟩ := id tk1
  refine ⟨_, rfl, t, _, dx, _, _, rfl, D.obj, F.cl, F.na1, rfl, sp, _, rfl, .inl (SqL.of D.spk), ?_⟩
  rw [List.length_map]
  refine ⟨_, rfl, t, dx, _, rfl, D.obj, rfl, _, rfl, _, rfl, t, pl, said, L, N, x, n, said.length, rfl, tk1, nd, hx, hl, fun H2 q1 s2 nq1 hq1 => ?_⟩
  rw [List.take_length] at hq1
  have tk2 := tk1.mono s2
  obtain ⟨dx2, sp2, sd2, cl2, past2, kvs2, D2⟩ := id tk2
  refine ⟨_, rfl, t, dx2, _, rfl, D2.obj, rfl, _, rfl, _, rfl, t, pl, said, L, N, y, m, said.length, rfl, tk2, nd, hy, hl, fun H3 q2 s3 nq2 hq2 => ?_⟩
  rw [List.take_length] at hq2
  refine ⟨q1, q2, _, _, rfl, s3 _ _ hq1, hq2, ⟨⟨by rw [List.length_drop]; omega, f4.sub fun y hy => List.mem_of_mem_drop hy⟩, ⟨by rw [List.length_drop]; omega, f4.sub fun y hy => List.mem_of_mem_drop hy⟩⟩, fun H4 s4 => ⟨_, rfl, ?_⟩⟩
  refine iteFb (congrArg not (decide_eq_true hsim)) ?_
  have s14 := ((s1.trans s2).trans s3).trans s4
  have tk4 := tk.mono s14
  obtain ⟨dx4, sp4, sd4, cl4, past4, kvs4, D4⟩ := id tk4
  obtain ⟨q1', d1, h1, h2, h3⟩ := seat_val D4.seat nd hx
  obtain ⟨q2', d2, g1, g2, g3⟩ := seat_val D4.seat nd hy
  have a1 := DGet.k (k := .inr x) D4.seat.dict
  have a2 := DGet.k (k := .inr y) D4.seat.dict
  rw [h1] at a1
  rw [g1] at a2
  refine ⟨_, rfl, t, _, dx4, _, _, rfl, D4.obj, F.cl, F.na2, rfl, _, rfl, sd4, .ref q1', rfl, a1, q1', _, 0, _, rfl, rfl, SqT.of h2, rfl, ?_⟩
  refine ⟨_, rfl, t, _, dx4, _, _, rfl, D4.obj, F.cl, F.na2, rfl, _, rfl, sd4, .ref q2', rfl, a2, q2', _, 0, _, rfl, rfl, SqT.of g2, rfl, ?_⟩
  refine ⟨n, m, rfl, ?_⟩
  rw [max_nat]
  refine ⟨_, rfl, _, rfl, hT.ext s14, fun H5 eN T5 => ?_⟩
  have tk5 := tk4.extN eN
  refine ⟨max n m, said.length, fun r => decide (Sim ((said.take r).drop n) ((said.take r).drop m)), rfl, rfl, by omega, hl, decide_eq_true (by rw [List.take_length]; exact hsim), fun r H6 R hr1 hr2 s6 hR => ?_, fun r H6 s6 h1 h2 h3 h4 => ?_⟩
  · have tk6 := tk5.mono s6
    obtain ⟨dx6, sp6, sd6, cl6, past6, kvs6, D6⟩ := id tk6
    refine ⟨_, rfl, t, dx6, _, rfl, D6.obj, rfl, _, rfl, _, rfl, t, pl, said, L, N, x, n, r, rfl, tk6, nd, hx, hl, fun H7 p1 s7 np1 hp1 => ?_⟩
    have tk7 := tk6.mono s7
    obtain ⟨dx7, sp7, sd7, cl7, past7, kvs7, D7⟩ := id tk7
    refine ⟨_, rfl, t, dx7, _, rfl, D7.obj, rfl, _, rfl, _, rfl, t, pl, said, L, N, y, m, r, rfl, tk7, nd, hy, hl, fun H8 p2 s8 np2 hp2 => ?_⟩
    exact ⟨p1, p2, _, _, rfl, s8 _ _ hp1, hp2, ⟨CF.cut f4 hl, CF.cut f4 hl⟩, fun H9 s9 => hR H9 ((s7.trans s8).trans s9)⟩
  · exact k H6 r (((ExtN.of s14).trans eN).trans (ExtN.of s6)) (T5.ext s6) h1 h2 (of_decide_eq_true h3) (h4.imp id fun z => of_decide_eq_false z)
end
end Tw
end
section
/-! text L1 -/
set_option maxHeartbeats 4000000
namespace Tw
open PySem PySem.Spec PyProof.Rows L2
theorem bo_abs : bootBuiltins "abs" = some (.builtin "abs") := by decide +kernel
/-- a text so many times -/
def repS (z : Str) (n : Nat) : Str := ⟨((List.replicate n z.cps.toList).flatten).toArray⟩
theorem fold_app (a : Array Nat) : ∀ (n : Nat) (acc : List Nat), (List.replicate n a).foldl (· ++ ·) acc.toArray = (acc ++ (List.replicate n a.toList).flatten).toArray := by
  intro n
  induction n with
  | zero => intro acc; simp
  | succ n ih =>
    intro acc
    rw [List.replicate_succ, List.foldl_cons, List.replicate_succ, List.flatten_cons, ← List.append_assoc, ← ih (acc ++ a.toList)]
    congr 1
    simp
section
variable {X : Cx}
/-- a written text times a small number -/
theorem op_mul_str : OpR X (binaryOp .Mult) (fun x y H Q => ∃ z k, ∃ n : Nat, x = .str z ∧ y = .int k ∧ k = (n : Int) ∧ 1 ≤ n ∧ n ≤ 1000 ∧ 1 ≤ z.length ∧ z.length ≤ 1000 ∧ Q (.str (repS z n)) H) := by
  intro pins s σ H x y v u Q I rx ry h
  obtain ⟨z, k, n, rfl, rfl, rfl, h1, h2, h3, h4, q⟩ := h
  obtain ⟨t, rfl⟩ := rx
  obtain ⟨t', rfl⟩ := ry
  have hz : ¬ ((z.length : Int) > (2 ^ 63 - 1) / (n : Int)) := by
    have e : (1000 : Int) ≤ (2 ^ 63 - 1) / (n : Int) := (Int.le_ediv_iff_mul_le (by omega)).mpr (by omega)
    omega
  have hm : z.length * n ≤ 1000 * 1000 := Nat.mul_le_mul h4 h2
  have hl : Builtin.Str.tooLong (z.length * n) = false := decide_eq_false (by
    have e : sizeLine = 16777216 := rfl
    omega)
  refine PySem.P.mul_str (by rw [decide_eq_false (by omega), decide_eq_false (by omega)]; rfl) (fun _ _ => hz) (fun _ _ => by rw [Int.toNat_natCast]; exact hl) ?_
  rw [if_neg (by omega)]
  by_cases hn : n = 1
  · subst hn
    rw [if_pos (by rfl)]
    have e : repS z 1 = z := by
      unfold repS
      simp
    rw [e] at q
    exact ⟨.str z, H, I, ⟨t, rfl⟩, q⟩
  · rw [if_neg (by
      rw [Bool.or_eq_true]
      rintro (e | e)
      · have := eq_of_beq e; omega
      · have := eq_of_beq e; omega)]
    have e : (⟨(List.replicate (n : Int).toNat z.cps).foldl (· ++ ·) #[]⟩ : Str) = repS z n := by
      unfold repS
      rw [Int.toNat_natCast]
      congr 1
      have := fold_app z.cps n []
      simpa using this
    rw [e]
    refine ⟨?_, .str (repS z n), H, I.tok _, ⟨_, rfl⟩, q⟩
    have e2 : (repS z n).length = n * z.length := by
      unfold repS Str.length
      simp
    have e3 : sizeLine = 16777216 := rfl
    rw [e2, Nat.mul_comm, e3]
    omega
theorem get_list : PGet X (rIxL X.K) := by
  intro pins s σ H x y v u Q I rx ry h
  obtain ⟨p, xs, i, z, rfl, rfl, hq, he, q⟩ := h
  cases rx
  obtain ⟨t, rfl⟩ := ry
  obtain ⟨its, r, pl, hz⟩ := I.list hq
  obtain ⟨j, h1, h2, h3, h4, h5⟩ := atI_get he
  obtain ⟨w, ew, rw'⟩ := r.get h2
  have hl := r.length
  have hn := line63
  have fin : EP X pins σ Q w s := ⟨z, H, I, rw', q⟩
  by_cases h0 : 0 ≤ i
  · have hj : i.toNat = j := by
      rw [seqIndex_of h0 h5] at h1
      exact Option.some.inj h1
    exact wpAny_getItem_list pl.isList h0 (by omega) (by rw [hj]; simpa using ew) fin
  · have hj : (i + (its.toArray.size : Int)).toNat = j := by
      rw [seqIndex_neg (by omega) h4] at h1
      rw [List.size_toArray, ← hl]
      exact Option.some.inj h1
    exact wpAny_getItem_list_neg pl.isList (by omega) (by rw [List.size_toArray] <;> omega) (by omega) (by rw [hj]; simpa using ew) fin
end
end Tw
end
section
/-! text L2a -/
set_option maxHeartbeats 4000000
namespace Tw
open PySem PySem.Spec PyProof.Rows L2
/-- the law's bag at bg -/
def Bag (H : Hp) (bg lb : Addr) : Prop := ∃ (a b : Int) (c : Nat) (ns : List Int), H bg = some (.lst [.int a, .int b, .int (c : Nat), .ref lb]) ∧ H lb = some (.lst (ns.map V.int)) ∧ bg ≠ lb
theorem Bag.mono {H H' : Hp} {bg lb : Addr} (h : Bag H bg lb) (s : Same H H') : Bag H' bg lb :=
  let ⟨a, b, c, ns, h1, h2, n⟩ := h
  ⟨a, b, c, ns, s _ _ h1, s _ _ h2, n⟩
section
variable {P : Program} {w : World} {K : PySem.W.Frag} {mg : Str → Option Value} {base : Heap}
def spBag (K : PySem.W.Frag) : Sp := fun vs H Q _ => ∃ (p : Addr) (ns : List Int), vs = [.ref p] ∧ SqL K H p (ns.map V.int) ∧ ns.length ≤ 1000 ∧ ∀ H' bg lb, Same H H' → Bag H' bg lb → Q (.ref bg) H'
theorem ok_Lbag (T : TX K mg) : Cal P w K mg base 1 "_law_bag" ["_law_script"] (spBag K) := by
  refine mk_cal (y := "_law_bag") (st := s_Lbag) T 33 33 rfl rfl sc_Lbag (fun _ _ _ _ _ _ us hl => match us, hl with | [_], _ => rfl) (fun vs H Q E h => ?_) (fun cdv A outer s H vs Q E hr h => ?_)
  · obtain ⟨p, ns, rfl, _⟩ := h; rfl
  obtain ⟨p, ns, rfl, hp, hn, k⟩ := h
  refine ⟨_, pss_one (ps_ret (pe_lst (pa_cons pe_int (pa_cons pe_int (pa_cons pe_int (pa_cons
    (pe_lc (own := [("_law_cell", 1)]) rfl sc_Lbag.nd (pi_list (pe_slice sl_list (pv 0) po_none (po_some pe_int))) (blk (N := N_Lbag) (sc := defScope s_Lbag) (by decide +kernel)) (fun _ _ _ _ _ => pg_name (i := 1) sc_Lbag.nd rfl (.inl rfl)) (fun _ _ _ _ _ => pts_nil)
      (fun _ _ _ _ _ => pe_callB call_abs rfl (T.free 64 rfl) bo_abs (pa_cons (pv 1) pa_nil))) pa_nil)))))), ?_⟩
  refine ⟨_, rfl, _, rfl, p, _, rfl, hp, fun q nq => ?_⟩
  have ec : cutV (ns.map V.int) none (some (63 : Int)) = (ns.take 63).map V.int := cut_take V.int ns 63
  rw [ec]
  have s1 := same_new (o := .lst ((ns.take 63).map V.int)) nq
  have hq1 : upd H q (.lst ((ns.take 63).map V.int)) q = some (.lst ((ns.take 63).map V.int)) := upd_same
  generalize upd H q (.lst ((ns.take 63).map V.int)) = H1 at s1 hq1
  refine ⟨q, rfl, ⟨_, SqL.of hq1⟩, fun D nD => lc_list (K := K) (a := q) (xs := (ns.take 63).map V.int) (fun i H2 => Same H1 H2 ∧ i ≤ 63 ∧ ∃ us : List Int, us.length = i ∧ H2 D = some (.lst (us.map V.int))) ⟨same_new nD, by omega, [], rfl, upd_same⟩ (fun i H2 _ h2 => SqL.of (h2.1 _ _ hq1)) ?_ ?_⟩
  · rintro i x H2 hx ⟨s2, h6, us, e1, h2⟩
    obtain ⟨z, hz, rfl⟩ := map_at hx
    have hi := (List.getElem?_eq_some_iff.mp hz).1
    rw [List.length_take] at hi
    refine ⟨rfl, ?_⟩
    unfold tYes
    refine iteT ⟨_, rfl, _, rfl, us.map V.int, h2, small_line' (by rw [List.length_map]; omega), s2.put nD, by omega, us ++ [if z < 0 then -z else z], by rw [List.length_append, e1]; rfl, by rw [upd_same, List.map_append]; rfl⟩
  · rintro H2 ⟨s2, _, us, e1, h2⟩
    refine ⟨by show 4 ≤ sizeLine; decide, fun bg nb => ?_⟩
    exact k _ bg D ((s1.trans s2).new nb) ⟨0, 1234567891, 0, us, upd_same, same_new nb _ _ h2, fun e => by subst e; rw [h2] at nb; cases nb⟩
def ifBody : Stmt → List Stmt
  | .If _ b _ _ => b
  | _ => []
theorem atI_ints {ns : List Int} {c : Nat} (h : c < ns.length) : atI (ns.map V.int) (c : Int) = some (V.int ns[c]) := by
  exact L2.atI_nat (by rw [List.getElem?_map, List.getElem?_eq_getElem h]; rfl)
/-- a number below so many is taken; the bag goes on -/
def spTake : Sp := fun vs H Q _ => ∃ (bg lb : Addr) (n : Nat), vs = [.ref bg, .int n] ∧ 0 < n ∧ n ≤ 1000 ∧ Bag H bg lb ∧ ∀ H' (v : Nat), SL [bg] H H' → Bag H' bg lb → v < n → Q (.int v) H'
theorem ok_Ltake (T : TX K mg) : Cal P w K mg base 1 "_law_take" ["_law_bag_here", "_law_many"] spTake := by
  refine mk_cal (y := "_law_take") (st := s_Ltake) T 34 34 rfl rfl sc_Ltake (fun _ _ _ _ _ _ us hl => match us, hl with | [_, _], _ => rfl) (fun vs H Q E h => ?_) (fun cdv A outer s H vs Q E hr h => ?_)
  · obtain ⟨bg, lb, n, rfl, _⟩ := h; rfl
  obtain ⟨bg, lb, n, rfl, h1, h2, ⟨a, b, c, ns, hB, hL, nb⟩, k⟩ := h
  have at0 : ∀ {a b c l : V}, atI [a, b, c, l] 0 = some a := rfl
  obtain ⟨t2, hs2, ht2⟩ : ∃ t2, PSs (cxOf CX0 P w K mg base N_Ltake "_law_take" (defScope s_Ltake) (He.ga K "_law_take") cdv A outer s H E).nox ((defBody s_Ltake).drop 1) t2 ∧ ∀ (a b : Int) (c : Nat) (x2 x3 x4 x5 : Option V) (H2 : Hp), SL [bg] H H2 → H2 bg = some (.lst [.int a, .int b, .int (c : Nat), .ref lb]) → t2 { nx := fun _ H' => Q .non H', rt := Q } [some (.ref bg), some (.int n), x2, x3, x4, x5] H2 := by
    refine ⟨_, pss_cons (ps_if (pt_cmpR op_gt (pe_ix ix_list (pv 0) pe_int (fun _ _ => rfl)) pe_int (nomark _))
      (pss_cons (ps_set (i := 5) sc_Ltake.nd rfl (.inl rfl) (pe_op op_mod (pe_ix ix_list (pv 0) pe_int (fun _ _ => rfl)) (pv 1)))
      (pss_cons (ps_asg (pe_op op_fdiv (pe_ix ix_list (pv 0) pe_int (fun _ _ => rfl)) (pv 1)) (pg_sub (pv 0) pe_int set_list))
      (pss_one (ps_ret (pv 5))))) pss_nil)
    (pss_cons (ps_set (i := 2) sc_Ltake.nd rfl (.inl rfl) (pe_op op_mod (pe_op op_mul (pe_op op_add (pe_ix ix_list (pv 0) pe_int (fun _ _ => rfl)) pe_int) pe_int) pe_int))
    (pss_cons (ps_set (i := 3) sc_Ltake.nd rfl (.inl rfl) (pe_op op_mod (pe_op op_mul (pe_op op_mod (pe_op op_mul (pv 2) (pv 2)) pe_int) pe_int) pe_int))
    (pss_cons (ps_if (pt_cmpR op_gt (pv 1) pe_int (nomark _)) (pss_one (ps_ret (pe_op op_mod (pe_op op_add (pe_op op_mul (pv 3) pe_int) (pv 2)) (pv 1)))) pss_nil)
    (pss_one (ps_ret (pe_op op_mod (pe_op op_fdiv (pv 3) pe_int) (pv 1))))))), ?_⟩
    intro a b c x2 x3 x4 x5 H2 s2 hB2
    have hL2 : H2 lb = some (.lst (ns.map V.int)) := s2 _ _ (fun e => nb (List.mem_singleton.mp e).symm) hL
    have fin : ∀ (H3 : Hp) (a' : Int) (z : Int), SL [bg] H H3 → H3 bg = some (.lst [.int a', .int b, .int (c : Nat), .ref lb]) → H3 lb = some (.lst (ns.map V.int)) → Q (.int (z % (n : Int))) H3 := fun H3 a' z s3 hB3 hL3 => by
      have e : z % (n : Int) = (((z % (n : Int)).toNat : Nat) : Int) := (Int.toNat_of_nonneg (Int.emod_nonneg _ (by omega))).symm
      have hlt := Int.emod_lt_of_pos z (show (0 : Int) < n by omega)
      rw [e]
      exact k H3 _ s3 ⟨a', b, c, ns, hB3, hL3, nb⟩ (by omega)
    refine ⟨_, rfl, bg, _, 0, _, rfl, rfl, SqL.of hB2, rfl, a, 0, rfl, rfl, _, rfl, ?_⟩
    by_cases ha : a > 0
    · refine iteTb (decide_eq_true ha) ?_
      refine ⟨_, rfl, bg, _, 0, _, rfl, rfl, SqL.of hB2, rfl, _, rfl, a, n, rfl, rfl, by show (0 : Int) < n; omega, ?_⟩
      refine ⟨_, rfl, bg, _, 0, _, rfl, rfl, SqL.of hB2, rfl, _, rfl, a, n, rfl, rfl, ⟨by omega, by omega⟩, ?_⟩
      refine ⟨_, rfl, bg, _, 0, 0, rfl, rfl, hB2, rfl, ?_⟩
      refine ⟨_, rfl, fin _ (a / n) a (s2.set List.mem_cons_self) upd_same (by rw [upd_ne (Ne.symm nb)]; exact hL2)⟩
    · refine iteFb (decide_eq_false ha) ?_
      refine ⟨_, rfl, bg, _, 1, _, rfl, rfl, SqL.of hB2, rfl, _, _, rfl, rfl, _, _, rfl, rfl, .inr ⟨by decide, by decide⟩, _, _, rfl, rfl, (show (0 : Int) < 1000000007 by decide), ?_⟩
      have f0 : 0 ≤ (b + 1) * 39373 % 1000000007 ∧ (b + 1) * 39373 % 1000000007 < 1000000007 := ⟨Int.emod_nonneg _ (by decide), Int.emod_lt_of_pos _ (by decide)⟩
      generalize hf : (b + 1) * 39373 % 1000000007 = f at f0
      show gName 2 (V.int ((b + 1) * 39373 % 1000000007)) _ _ _
      rw [hf]
      refine ⟨_, rfl, _, rfl, _, _, rfl, rfl, .inr ⟨by omega, by omega⟩, _, _, rfl, rfl, (show (0 : Int) < 998244353 by decide), _, _, rfl, rfl, .inr ⟨by decide, by decide⟩, _, _, rfl, rfl, (show (0 : Int) < 998244353 by decide), ?_⟩
      generalize f * f % 998244353 * 30011 % 998244353 = g
      refine ⟨_, rfl, n, 1000000, rfl, rfl, _, rfl, iteFb (decide_eq_false (by omega)) ?_⟩
      refine ⟨_, rfl, _, _, rfl, rfl, ⟨by decide, by decide⟩, _, rfl, _, _, rfl, rfl, (show (0 : Int) < n by omega), ?_⟩
      exact fin H2 a _ s2 hB2 hL2
  obtain ⟨t3, hs3, ht3⟩ : ∃ t3, PSs (cxOf CX0 P w K mg base N_Ltake "_law_take" (defScope s_Ltake) (He.ga K "_law_take") cdv A outer s H E).nox ((ifBody ((defBody s_Ltake).headD (.Pass ⟨0, 0, 0, 0⟩))).drop 2) t3 ∧
      ∀ (z : Int) (D : Ends), (∀ (a b : Int) (c : Nat) (x4 : Option V) (H2 : Hp), SL [bg] H H2 → H2 bg = some (.lst [.int a, .int b, .int (c : Nat), .ref lb]) → D.nx [some (.ref bg), some (.int n), none, none, x4, none] H2) → H bg = some (.lst [.int 0, .int b, .int (c : Nat), .ref lb]) → t3 D [some (.ref bg), some (.int n), none, none, some (.int z), none] H := by
    refine ⟨_, pss_cons (ps_augS (pv 0) pe_int get_list pe_int ip_add set_list)
      (pss_cons (ps_if (pt_cmpR op_ge (pv 4) pe_int (nomark _)) (pss_one (ps_asg (pv 4) (pg_sub (pv 0) pe_int set_list))) pss_nil)
      (pss_one (ps_asg (pe_op op_mod (pe_op op_add (pe_op op_add (pe_op op_mul (pe_ix ix_list (pv 0) pe_int (fun _ _ => rfl)) pe_int) (pe_op op_mod (pv 4) pe_int)) (pe_op op_mul pe_int (pe_ix ix_list (pv 0) pe_int (fun _ _ => rfl)))) pe_int) (pg_sub (pv 0) pe_int set_list)))), ?_⟩
    intro z D hD hB0
    refine ⟨_, rfl, bg, _, 2, _, rfl, rfl, SqL.of hB0, rfl, _, _, rfl, rfl, bg, _, 2, 2, rfl, rfl, hB0, rfl, ?_⟩
    have last : ∀ (a : Int) (H2 : Hp), SL [bg] H H2 → H2 bg = some (.lst [.int a, .int b, .int ((c + 1 : Nat) : Int), .ref lb]) → tAsg (tOp (rI (fun x j => 0 < j) fun i j => V.int (i % j)) (tOp (rI0 fun i j => V.int (i + j)) (tOp (rI0 fun i j => V.int (i + j)) (tOp (rI CMul fun i j => V.int (i * j)) (tOp (rIxL K) (tVar 0) (tC (V.int 1))) (tC (V.int 48271))) (tOp (rI (fun x j => 0 < j) fun i j => V.int (i % j)) (tVar 4) (tC (V.int 2147483647))))
        (tOp (rI CMul fun i j => V.int (i * j)) (tC (V.int 7919)) (tOp (rIxL K) (tVar 0) (tC (V.int 2))))) (tC (V.int 2147483647))) (gSub (tVar 0) (tC (V.int 1)) rSetL) D [some (.ref bg), some (.int n), none, none, some (.int z), none] H2 := fun a H2 s2 hB2 => by
      refine ⟨_, rfl, bg, _, 1, _, rfl, rfl, SqL.of hB2, rfl, _, _, rfl, rfl, .inr ⟨by decide, by decide⟩, _, rfl, _, _, rfl, rfl, (show (0 : Int) < 2147483647 by decide), _, _, rfl, rfl, _, rfl, bg, _, 2, _, rfl, rfl, SqL.of hB2, rfl, _, _, rfl, rfl, .inl ⟨by decide, by decide⟩, _, _, rfl, rfl, _, _, rfl, rfl, (show (0 : Int) < 2147483647 by decide), ?_⟩
      refine ⟨_, rfl, bg, _, 1, 1, rfl, rfl, hB2, rfl, hD _ _ (c + 1) _ _ (s2.set List.mem_cons_self) upd_same⟩
    refine ⟨_, rfl, z, 1000000000000000000, rfl, rfl, _, rfl, ?_⟩
    by_cases hz : (1000000000000000000 : Int) ≤ z
    · refine iteTb (decide_eq_true hz) ?_
      refine ⟨_, rfl, _, rfl, bg, _, 0, 0, rfl, rfl, upd_same, rfl, ?_⟩
      exact last z _ (((SL.refl _ _).set List.mem_cons_self).set List.mem_cons_self) upd_same
    · refine iteFb (decide_eq_false hz) ?_
      exact last 0 _ ((SL.refl _ _).set List.mem_cons_self) upd_same
  refine ⟨_, pss_cons (ps_if (pt_cmpR op_eq (pe_ix ix_list (pv 0) pe_int (fun _ _ => rfl)) pe_int (nomark _))
      (pss_cons (ps_set (i := 4) sc_Ltake.nd rfl (.inl rfl) pe_int)
      (pss_cons (ps_if (pt_cmpR op_lt (pe_ix ix_list (pv 0) pe_int (fun _ _ => rfl)) (plen T (pe_ix ix_list (pv 0) pe_int (fun _ _ => rfl))) (nomark _))
          (pss_one (ps_set (i := 4) sc_Ltake.nd rfl (.inl rfl) (pe_ix ix_list (pe_ix ix_list (pv 0) pe_int (fun _ _ => rfl)) (pe_ix ix_list (pv 0) pe_int (fun _ _ => rfl)) (fun _ _ => rfl)))) pss_nil)
      hs3)) pss_nil)
    hs2, ?_⟩
  refine ⟨_, rfl, bg, _, 0, _, rfl, rfl, SqL.of hB, rfl, rfl, _, rfl, ?_⟩
  by_cases ha : a = 0
  · subst ha
    refine iteTb (decide_eq_true rfl) ?_
    refine ⟨_, rfl, bg, _, 2, _, rfl, rfl, SqL.of hB, rfl, _, rfl, bg, _, 3, _, rfl, rfl, SqL.of hB, rfl, lb, _, rfl, .inl (SqL.of hL), _, _, rfl, rfl, _, rfl, ?_⟩
    by_cases hc : c < ns.length
    · refine iteTb (decide_eq_true (by rw [List.length_map]; omega)) ?_
      refine ⟨_, rfl, bg, _, 3, _, rfl, rfl, SqL.of hB, rfl, _, rfl, bg, _, 2, _, rfl, rfl, SqL.of hB, rfl, lb, _, _, _, rfl, rfl, SqL.of hL, atI_ints hc, ?_⟩
      exact ht3 ns[c] _ (fun a b c x4 H2 s2 hB2 => ht2 a b c _ _ _ _ H2 s2 hB2) hB
    · refine iteFb (decide_eq_false (by rw [List.length_map]; omega)) ?_
      exact ht3 0 _ (fun a b c x4 H2 s2 hB2 => ht2 a b c _ _ _ _ H2 s2 hB2) hB
  · refine iteFb (decide_eq_false (fun e => ha (V.int.inj e))) ?_
    exact ht2 a b c none none none none H (SL.refl _ _) hB
end
end Tw
end
section
/-! text L3 -/
set_option maxHeartbeats 4000000
namespace Tw
open PySem PySem.Spec PyProof.Rows L2
abbrev abc : Str := "abcdefghijklmnopqrstuvwxyz"
theorem abc_at {i : Nat} (h : i < 26) : atI abc.cps.toList (i : Int) = some (97 + i) := by
  have key : (List.range 26).all (fun k => decide (abc.cps.toList[k]? = some (97 + k))) = true := by decide +kernel
  exact L2.atI_nat (of_decide_eq_true (List.all_eq_true.mp key i (List.mem_range.mpr h)))
theorem abc_len : abc.length = 26 := by decide +kernel
/-- the text of a list of letters -/
def txt (l : List Nat) : Str := ⟨l.toArray⟩
theorem txt_len (l : List Nat) : (txt l).length = l.length := by unfold txt Str.length; simp
theorem txt_list (l : List Nat) : (txt l).cps.toList = l := rfl
theorem txt_ok {l : List Nat} (h1 : 1 ≤ l.length) (h2 : l.length ≤ 8) (h : ∀ c ∈ l, 97 ≤ c ∧ c ≤ 122) : WordOk (txt l) := ⟨by rw [txt_len]; exact h1, by rw [txt_len]; exact h2, h⟩
theorem repS_one (c n : Nat) : repS ⟨#[c]⟩ n = txt (List.replicate n c) := by
  unfold repS txt
  congr 2
  induction n with
  | zero => rfl
  | succ n ih => rw [List.replicate_succ, List.flatten_cons, ih, List.replicate_succ]; rfl
theorem cutS_take (l : List Nat) (j : Nat) : cutS (txt l) none (some (j : Int)) = txt (l.take j) := by
  unfold cutS
  rw [HT.sIx_none, HT.sIx_nat, txt_len, txt_list, List.drop_zero, Nat.sub_zero]
  unfold txt
  congr 2
  rcases Nat.le_total j l.length with h | h
  · rw [Nat.min_eq_left h]
  · rw [Nat.min_eq_right h, List.take_of_length_le h, List.take_length]
theorem cutS_drop (l : List Nat) (j : Nat) : cutS (txt l) (some (j : Int)) none = txt (l.drop j) := by
  unfold cutS
  rw [HT.sIx_none, HT.sIx_nat, txt_len, txt_list]
  unfold txt
  congr 2
  rcases Nat.le_total j l.length with h | h
  · rw [Nat.min_eq_left h, List.take_of_length_le (by rw [List.length_drop]; omega)]
  · rw [Nat.min_eq_right h, List.drop_length, Nat.sub_self, List.take_zero, List.drop_of_length_le h]
theorem txt_app (a b : List Nat) : txt a ++ txt b = txt (a ++ b) := by
  show (⟨a.toArray ++ b.toArray⟩ : Str) = _
  unfold txt
  simp
theorem rep_ok {c n : Nat} (h1 : 1 ≤ n) (h2 : n ≤ 8) (hc : 97 ≤ c ∧ c ≤ 122) : WordOk (txt (List.replicate n c)) :=
  txt_ok (by rw [List.length_replicate]; exact h1) (by rw [List.length_replicate]; exact h2) fun d hd => by rw [(List.mem_replicate.mp hd).2]; exact hc
theorem SL.free {ch : List Addr} {H H1 : Hp} {p : Addr} (s : SL ch H H1) (hc : p ∉ ch) (h : H1 p = none) : H p = none := by
  cases e : H p with
  | none => rfl
  | some o => rw [s p o hc e] at h; cases h
theorem Bag.some {H : Hp} {bg lb : Addr} (h : Bag H bg lb) : H bg ≠ none := fun e => by
  obtain ⟨a, b, c, ns, h1, _⟩ := h
  rw [h1] at e; cases e
section
variable {P : Program} {w : World} {K : PySem.W.Frag} {mg : Str → Option Value} {base : Heap}
def spTongue : Sp := fun vs H Q _ => ∃ (bg lb : Addr) (n : Nat), vs = [.ref bg, .int n] ∧ 1 ≤ n ∧ n ≤ 4 ∧ Bag H bg lb ∧ ∀ H' p ws, SL [bg] H H' → Bag H' bg lb → H p = none → LS H' p ws → ws.length = n → (∀ x ∈ ws, WordOk x) → Q (.ref p) H'
theorem ok_Ltongue (T : TX K mg) : Cal P w K mg base 2 "_law_tongue" ["_law_bag_here", "_law_many"] spTongue := by
  have Gt := ok_Ltake (P := P) (w := w) (base := base) T
  refine mk_cal (y := "_law_tongue") (st := s_Ltongue) T 35 35 rfl rfl sc_Ltongue (fun _ _ _ _ _ _ us hl => match us, hl with | [_, _], _ => rfl) (fun vs H Q E h => ?_) (fun cdv A outer s H vs Q E hr h => ?_)
  · obtain ⟨bg, lb, n, rfl, _⟩ := h; rfl
  obtain ⟨bg, lb, n, rfl, h1, h4, hB, k⟩ := h
  refine ⟨_, pss_cons (ps_set (i := 2) sc_Ltongue.nd rfl (.inr rfl) pe_str)
    (pss_cons (ps_set (i := 3) sc_Ltongue.nd rfl (.inr rfl) (pe_op op_mul_str (pe_ix ix_str (pv 2) (pc Gt hr (pa_cons (pv 0) (pa_cons pe_int pa_nil))) (fun _ _ => rfl)) (pe_op op_add pe_int (pc Gt hr (pa_cons (pv 0) (pa_cons pe_int pa_nil))))))
    (pss_cons (ps_set (i := 4) sc_Ltongue.nd rfl (.inr rfl) (pc Gt hr (pa_cons (pv 0) (pa_cons (plenS T (pv 3)) pa_nil))))
    (pss_cons (ps_asg (pe_tup (pa_cons (pc Gt hr (pa_cons (pv 0) (pa_cons pe_int pa_nil))) (pa_cons (pc Gt hr (pa_cons (pv 0) (pa_cons pe_int pa_nil))) pa_nil))) (pg_tup rfl (pgs_cons (pg_name (i := 5) sc_Ltongue.nd rfl (.inr rfl)) (pgs_cons (pg_name (i := 6) sc_Ltongue.nd rfl (.inl rfl)) pgs_nil))))
    (pss_cons (ps_if (pt_cmpR op_eq (pv 6) pe_int (nomark _)) (pss_one (ps_ret (pe_lc (own := [("_law_k", 7)]) rfl sc_Ltongue.nd (pi_range1 rfl (T.free 59 rfl) (pa_cons (pv 1) pa_nil)) (blk (N := N_Ltongue) (sc := defScope s_Ltongue) (by decide +kernel)) (fun _ _ _ _ _ => pg_name (i := 7) sc_Ltongue.nd rfl (.inl rfl)) (fun _ _ _ _ _ => pts_nil)
        (fun _ _ _ _ _ => pe_slice sl_str (pe_op op_mul_str (pe_ix ix_str (pv 2) (pv 5) (fun _ _ => rfl)) pe_int) po_none (po_some (pe_op op_add (pv 7) pe_int)))))) pss_nil)
    (pss_cons (ps_if (pt_cmpR op_eq (pv 6) pe_int (nomark _)) (pss_one (ps_ret (pe_lc (own := [("_law_k", 7)]) rfl sc_Ltongue.nd (pi_range1 rfl (T.free 59 rfl) (pa_cons (pv 1) pa_nil)) (blk (N := N_Ltongue) (sc := defScope s_Ltongue) (by decide +kernel)) (fun _ _ _ _ _ => pg_name (i := 7) sc_Ltongue.nd rfl (.inl rfl)) (fun _ _ _ _ _ => pts_nil)
        (fun _ _ _ _ _ => pe_op op_mul_str (pe_ix ix_str (pv 2) (pe_op op_mod (pe_op op_add (pv 5) (pe_op op_mul pe_int (pv 7))) pe_int) (fun _ _ => rfl)) (pe_op op_add pe_int (pe_op op_mod (pe_op op_add (pv 4) (pe_op op_mul pe_int (pv 7))) pe_int)))))) pss_nil)
    (pss_one (ps_ret (pe_lc (own := [("_law_k", 7)]) rfl sc_Ltongue.nd (pi_range1 rfl (T.free 59 rfl) (pa_cons (pv 1) pa_nil)) (blk (N := N_Ltongue) (sc := defScope s_Ltongue) (by decide +kernel)) (fun _ _ _ _ _ => pg_name (i := 7) sc_Ltongue.nd rfl (.inl rfl)) (fun _ _ _ _ _ => pts_nil)
        (fun _ _ _ _ _ => pe_op op_add_str (pe_op op_add_str (pe_slice sl_str (pv 3) po_none (po_some (pv 4))) (pe_ix ix_str (pv 2) (pe_op op_mod (pe_op op_add (pv 5) (pv 7)) pe_int) (fun _ _ => rfl))) (pe_slice sl_str (pv 3) (po_some (pe_op op_add (pv 4) pe_int)) po_none)))))))))), ?_⟩
  have hline : ∀ {m : Nat}, m ≤ 1000 → m ≤ sizeLine := fun h => by
    have e : sizeLine = 16777216 := rfl
    omega
  have labc : abc.length ≤ sizeLine := hline (by rw [abc_len]; decide)
  refine ⟨_, rfl, _, rfl, bg, lb, 26, rfl, by decide, by decide, hB, fun H1 v1 s1 hB1 hv1 => ⟨abc, v1, 97 + v1, rfl, rfl, labc, abc_at hv1, ?_⟩⟩
  refine ⟨_, rfl, bg, lb, 8, rfl, by decide, by decide, hB1, fun H2 v2 s2 hB2 hv2 => ⟨_, _, rfl, rfl, ⟨#[97 + v1]⟩, _, 1 + v2, rfl, rfl, by omega, by omega, by omega, by show 1 ≤ 1; decide, by show 1 ≤ 1000; decide, ?_⟩⟩
  rw [repS_one]
  refine ⟨_, rfl, _, rfl, txt (List.replicate (1 + v2) (97 + v1)), rfl, hline (by rw [txt_len, List.length_replicate]; omega), ?_⟩
  rw [txt_len, List.length_replicate]
  refine ⟨bg, lb, 1 + v2, rfl, by omega, by omega, hB2, fun H3 v3 s3 hB3 hv3 => ?_⟩
  refine ⟨_, rfl, bg, lb, 26, rfl, by decide, by decide, hB3, fun H4 v4 s4 hB4 hv4 => ⟨_, rfl, bg, lb, 5, rfl, by decide, by decide, hB4, fun H5 v5 s5 hB5 hv5 => ⟨by show 2 ≤ sizeLine; decide, fun q nq => ?_⟩⟩⟩
  have s15 : SL [bg] H (upd H5 q (.tup [.int v4, .int v5])) := ((((s1.trans s2).trans s3).trans s4).trans s5).new nq
  have hB6 : Bag (upd H5 q (.tup [.int v4, .int v5])) bg lb := hB5.mono (same_new nq)
  have hq6 : upd H5 q (.tup [.int v4, .int v5]) q = some (.tup [.int v4, .int v5]) := upd_same
  generalize upd H5 q (.tup [.int v4, .int v5]) = H6 at s15 hB6 hq6
  refine ⟨q, _, rfl, SqT.of hq6, rfl, _, _, rfl, _, _, rfl, rfl, ?_⟩
  -- a word more in the list at D
  have fin : ∀ (D : Addr) (H7 : Hp) (ws : List Str), H6 D = none → Same H6 H7 → LS H7 D ws → ws.length = n → (∀ x ∈ ws, WordOk x) → Q (.ref D) H7 := fun D H7 ws nD s7 hD hl hw =>
    k H7 D ws (s15.same s7) (hB6.mono s7) (s15.free (fun e => hB6.some (by rw [← List.mem_singleton.mp e]; exact nD)) nD) hD hl hw
  have step : ∀ (D : Addr) (H7 : Hp) (i : Nat) (ws : List Str) (x : Str), H6 D = none → Same H6 H7 → LS H7 D ws → ws.length = i ∧ i ≤ 4 → (∀ y ∈ ws, WordOk y) → WordOk x → ∃ acc, H7 D = some (.lst acc) ∧ acc.length < sizeLine ∧ (Same H6 (upd H7 D (.lst (acc ++ [.str x]))) ∧ ∃ us, LS (upd H7 D (.lst (acc ++ [.str x]))) D us ∧ us.length = i + 1 ∧ ∀ y ∈ us, WordOk y) := by
    intro D H7 i ws x nD s7 hD hi hw hx
    exact ⟨ws.map V.str, hD, small_line' (by rw [List.length_map]; omega), s7.put nD, ws ++ [x], by show upd _ _ _ _ = _; rw [upd_same, List.map_append]; rfl, by rw [List.length_append, hi.1]; rfl, fun y hy => by
      rcases List.mem_append.mp hy with hy | hy
      · exact hw y hy
      · rw [List.mem_singleton.mp hy]; exact hx⟩
  have let1 : ∀ m : Nat, m < 26 → 97 ≤ 97 + m ∧ 97 + m ≤ 122 := fun m h => by omega
  refine ⟨_, rfl, rfl, _, rfl, ?_⟩
  by_cases w0 : v5 = 0
  · subst w0
    refine iteTb (decide_eq_true rfl) ?_
    refine ⟨_, rfl, n, rfl, by omega, by omega, fun D nD => lc_range (lo := 0) (n := (n : Int).toNat) (fun i H7 => Same H6 H7 ∧ ∃ ws, LS H7 D ws ∧ ws.length = i ∧ ∀ x ∈ ws, WordOk x) ⟨same_new nD, [], upd_same, rfl, fun x hx => absurd hx List.not_mem_nil⟩ ?_ ?_⟩
    · rintro i H7 hi ⟨s7, ws, h7, e7, w7⟩
      rw [Int.toNat_natCast] at hi
      refine ⟨rfl, ?_⟩
      unfold tYes
      refine iteT ?_
      refine ⟨_, rfl, _, rfl, abc, v4, 97 + v4, rfl, rfl, labc, abc_at hv4, ⟨#[97 + v4]⟩, 8, 8, rfl, rfl, rfl, by decide, by decide, by show 1 ≤ 1; decide, by show 1 ≤ 1000; decide, _, rfl, _, _, rfl, rfl, _, rfl, repS ⟨#[97 + v4]⟩ 8, rfl, by rw [repS_one, txt_len, List.length_replicate]; exact hline (by decide), ?_⟩
      refine step D H7 i ws _ nD s7 h7 ⟨e7, by omega⟩ w7 ?_
      show WordOk (cutS (repS ⟨#[97 + v4]⟩ 8) none (some (0 + (i : Int) + 1)))
      have e : (0 : Int) + (i : Int) + 1 = ((i + 1 : Nat) : Int) := by omega
      rw [e, repS_one, cutS_take, List.take_replicate]
      exact rep_ok (by omega) (by omega) (let1 v4 hv4)
    · rintro H7 ⟨s7, ws, h7, e7, w7⟩
      exact fin D H7 ws nD s7 h7 (by rw [e7]; exact Int.toNat_natCast n) w7
  · refine iteFb (decide_eq_false (fun e => w0 (by have := V.int.inj e; omega))) ?_
    refine ⟨_, rfl, rfl, _, rfl, ?_⟩
    by_cases w1 : v5 = 1
    · subst w1
      refine iteTb (decide_eq_true rfl) ?_
      refine ⟨_, rfl, n, rfl, by omega, by omega, fun D nD => lc_range (lo := 0) (n := (n : Int).toNat) (fun i H7 => Same H6 H7 ∧ ∃ ws, LS H7 D ws ∧ ws.length = i ∧ ∀ x ∈ ws, WordOk x) ⟨same_new nD, [], upd_same, rfl, fun x hx => absurd hx List.not_mem_nil⟩ ?_ ?_⟩
      · rintro i H7 hi ⟨s7, ws, h7, e7, w7⟩
        rw [Int.toNat_natCast] at hi
        refine ⟨rfl, ?_⟩
        unfold tYes
        refine iteT ?_
        have ea : ((v4 : Int) + 5 * (0 + (i : Int))) % 26 = (((v4 + 5 * i) % 26 : Nat) : Int) := by omega
        have eb : (1 : Int) + ((v3 : Int) + 3 * (0 + (i : Int))) % 8 = ((1 + (v3 + 3 * i) % 8 : Nat) : Int) := by omega
        have hm : (v4 + 5 * i) % 26 < 26 := Nat.mod_lt _ (by decide)
        refine ⟨_, rfl, _, rfl, _, rfl, _, _, rfl, rfl, .inl ⟨by decide, by decide⟩, _, _, rfl, rfl, _, _, rfl, rfl, (show (0 : Int) < 26 by decide), abc, _, 97 + (v4 + 5 * i) % 26, rfl, rfl, labc, by rw [ea]; exact abc_at hm, ?_⟩
        refine ⟨_, rfl, _, rfl, _, _, rfl, rfl, .inl ⟨by decide, by decide⟩, _, _, rfl, rfl, _, _, rfl, rfl, (show (0 : Int) < 8 by decide), _, _, rfl, rfl, ⟨#[97 + (v4 + 5 * i) % 26]⟩, _, 1 + (v3 + 3 * i) % 8, rfl, rfl, eb, by omega, by omega, by show 1 ≤ 1; decide, by show 1 ≤ 1000; decide, ?_⟩
        refine step D H7 i ws _ nD s7 h7 ⟨e7, by omega⟩ w7 ?_
        rw [repS_one]
        exact rep_ok (by omega) (by omega) (let1 _ hm)
      · rintro H7 ⟨s7, ws, h7, e7, w7⟩
        exact fin D H7 ws nD s7 h7 (by rw [e7]; exact Int.toNat_natCast n) w7
    · refine iteFb (decide_eq_false (fun e => w1 (by have := V.int.inj e; omega))) ?_
      refine ⟨_, rfl, n, rfl, by omega, by omega, fun D nD => lc_range (lo := 0) (n := (n : Int).toNat) (fun i H7 => Same H6 H7 ∧ ∃ ws, LS H7 D ws ∧ ws.length = i ∧ ∀ x ∈ ws, WordOk x) ⟨same_new nD, [], upd_same, rfl, fun x hx => absurd hx List.not_mem_nil⟩ ?_ ?_⟩
      · rintro i H7 hi ⟨s7, ws, h7, e7, w7⟩
        rw [Int.toNat_natCast] at hi
        refine ⟨rfl, ?_⟩
        unfold tYes
        refine iteT ?_
        have ea : ((v4 : Int) + (0 + (i : Int))) % 26 = (((v4 + i) % 26 : Nat) : Int) := by omega
        have hm : (v4 + i) % 26 < 26 := Nat.mod_lt _ (by decide)
        have lb : (txt (List.replicate (1 + v2) (97 + v1))).length ≤ sizeLine := hline (by rw [txt_len, List.length_replicate]; omega)
        have e1 : (v3 : Int) + 1 = ((v3 + 1 : Nat) : Int) := by omega
        have l1 : (cutS (txt (List.replicate (1 + v2) (97 + v1))) none (some (v3 : Int))).length ≤ 8 := by
          rw [cutS_take, List.take_replicate, txt_len, List.length_replicate]; omega
        have l2 : (cutS (txt (List.replicate (1 + v2) (97 + v1))) (some ((v3 : Int) + 1)) none).length ≤ 8 := by
          rw [e1, cutS_drop, List.drop_replicate, txt_len, List.length_replicate]; omega
        have l3 : (⟨#[97 + (v4 + i) % 26]⟩ : Str).length = 1 := rfl
        have l4 : (cutS (txt (List.replicate (1 + v2) (97 + v1))) none (some (v3 : Int)) ++ ⟨#[97 + (v4 + i) % 26]⟩ : Str).length ≤ 9 := by
          rw [cutS_take]
          show (txt _ ++ txt [97 + (v4 + i) % 26]).length ≤ 9
          rw [txt_app, txt_len, List.length_append, List.take_replicate, List.length_replicate, List.length_singleton]; omega
        refine ⟨_, rfl, _, rfl, _, rfl, txt (List.replicate (1 + v2) (97 + v1)), rfl, lb, _, rfl, _, rfl, _, rfl, _, _, rfl, rfl, _, _, rfl, rfl, (show (0 : Int) < 26 by decide), abc, _, 97 + (v4 + i) % 26, rfl, rfl, labc, by rw [ea]; exact abc_at hm, ?_⟩
        refine ⟨_, _, rfl, rfl, hline (by omega), ?_⟩
        refine ⟨_, rfl, _, rfl, _, _, rfl, rfl, _, rfl, txt (List.replicate (1 + v2) (97 + v1)), rfl, lb, ?_⟩
        refine ⟨_, _, rfl, rfl, hline (by omega), ?_⟩
        refine step D H7 i ws _ nD s7 h7 ⟨e7, by omega⟩ w7 ?_
        rw [e1, cutS_take, cutS_drop]
        show WordOk (txt _ ++ txt [97 + (v4 + i) % 26] ++ txt _)
        rw [txt_app, txt_app, List.take_replicate, List.drop_replicate]
        refine txt_ok (by simp only [List.length_append, List.length_replicate, List.length_singleton]; omega) (by simp only [List.length_append, List.length_replicate, List.length_singleton]; omega) fun c hc => ?_
        rcases List.mem_append.mp hc with hc | hc
        · rcases List.mem_append.mp hc with hc | hc
          · rw [(List.mem_replicate.mp hc).2]; exact let1 v1 hv1
          · rw [List.mem_singleton.mp hc]; exact let1 _ hm
        · rw [(List.mem_replicate.mp hc).2]; exact let1 v1 hv1
      · rintro H7 ⟨s7, ws, h7, e7, w7⟩
        exact fin D H7 ws nD s7 h7 (by rw [e7]; exact Int.toNat_natCast n) w7
end
end Tw
end
section
/-! text L4 -/
set_option maxHeartbeats 4000000
namespace Tw
open PySem PySem.Spec PyProof.Rows L2
theorem Bag.new {H : Hp} {bg lb D : Addr} (h : Bag H bg lb) (nD : H D = none) : D ≠ bg ∧ D ≠ lb := by
  obtain ⟨a, b, c, ns, h1, h2, _⟩ := h
  exact ⟨fun e => by (subst e; rw [h1] at nD; cases nD), fun e => by (subst e; rw [h2] at nD; cases nD)⟩
theorem Bag.put {H : Hp} {bg lb D : Addr} {o : HO} (h : Bag H bg lb) (n : D ≠ bg ∧ D ≠ lb) : Bag (upd H D o) bg lb := by
  obtain ⟨a, b, c, ns, h1, h2, h3⟩ := h
  exact ⟨a, b, c, ns, by rw [upd_ne n.1.symm]; exact h1, by rw [upd_ne n.2.symm]; exact h2, h3⟩
theorem Bag.words {H : Hp} {bg lb p : Addr} {ws : List Str} (h : Bag H bg lb) (hp : LS H p ws) : p ≠ bg := by
  obtain ⟨a, b, c, ns, h1, _, _⟩ := h
  rintro rfl
  have hp : H p = Option.some (HO.lst (ws.map V.str)) := hp
  rw [h1] at hp
  have e := HO.lst.inj (Option.some.inj hp)
  cases ws with
  | nil => cases e
  | cons x ws => cases e
theorem atI_strs {ws : List Str} {c : Nat} (h : c < ws.length) : atI (ws.map V.str) (c : Int) = some (V.str ws[c]) := by
  exact L2.atI_nat (by rw [List.getElem?_map, List.getElem?_eq_getElem h]; rfl)
section
variable {P : Program} {w : World} {K : PySem.W.Frag} {mg : Str → Option Value} {base : Heap}
def spSpeech : Sp := fun vs H Q _ => ∃ (bg lb wp : Addr) (ws : List Str) (n : Nat), vs = [.ref bg, .ref wp, .int n] ∧ LS H wp ws ∧ ws ≠ [] ∧ ws.length ≤ 4 ∧ n ≤ 6 ∧ Bag H bg lb ∧ ∀ H' p us, SL [bg] H H' → Bag H' bg lb → H p = none → LS H' p us → us.length ≤ n → (∀ x ∈ us, x ∈ ws) → Q (.ref p) H'
theorem ok_Lspeech (T : TX K mg) : Cal P w K mg base 2 "_law_speech" ["_law_bag_here", "_law_words", "_law_most"] spSpeech := by
  have Gt := ok_Ltake (P := P) (w := w) (base := base) T
  refine mk_cal (y := "_law_speech") (st := s_Lspeech) T 36 36 rfl rfl sc_Lspeech (fun _ _ _ _ _ _ us hl => match us, hl with | [_, _, _], _ => rfl) (fun vs H Q E h => ?_) (fun cdv A outer s H vs Q E hr h => ?_)
  · obtain ⟨bg, lb, wp, ws, n, rfl, _⟩ := h; rfl
  obtain ⟨bg, lb, wp, ws, n, rfl, hW, hne, h4, hn6, hB, k⟩ := h
  refine ⟨_, pss_cons (ps_setLc (i := 3) (own := [("_law_k", 4)]) rfl sc_Lspeech.nd rfl rfl rfl (pi_range1 rfl (T.free 59 rfl) (pa_cons (pe_op op_mul (pc Gt hr (pa_cons (pv 0) (pa_cons (pe_op op_add (pv 2) pe_int) pa_nil))) (pe_callTy call_int1 rfl (T.free 50 rfl) bo_int (pa_cons (pe_cmpR (op_neS hr.units0) (pv 1) (pe_lst pa_nil) (nomark _)) pa_nil))) pa_nil)) (blk (N := N_Lspeech) (sc := defScope s_Lspeech) (by decide +kernel)) (fun _ _ _ _ _ => pg_name (i := 4) sc_Lspeech.nd rfl (.inl rfl)) (fun _ _ _ _ _ => pts_nil)
        (fun _ _ _ _ _ => pe_ix (ix_listB K) (pv 1) (pc Gt hr (pa_cons (pv 0) (pa_cons (plenB (K := K) (mg := mg) T (pv 1)) pa_nil))) (fun _ _ => rfl)))
    (pss_cons (ps_for PassesOwn.never rfl (pi_range1 rfl (T.free 59 rfl) (pa_cons (pc Gt hr (pa_cons (pv 0) (pa_cons pe_int pa_nil))) pa_nil)) (pg_name (i := 4) sc_Lspeech.nd rfl (.inl rfl))
      (pss_cons (ps_set (i := 5) sc_Lspeech.nd rfl (.inl rfl) (pc Gt hr (pa_cons (pv 0) (pa_cons (pe_op op_add (plen T (pv 3)) pe_int) pa_nil))))
      (pss_cons (ps_set (i := 6) sc_Lspeech.nd rfl (.inl rfl) (pe_slice sl_list (pv 3) (po_some (pv 5)) (po_some (pe_op op_add (pe_op op_add (pv 5) pe_int) (pc Gt hr (pa_cons (pv 0) (pa_cons pe_int pa_nil)))))))
      (pss_one (ps_if (pt_cmpR op_le (pe_op op_add (plen T (pv 3)) (plen T (pv 6))) (pv 2) (nomark _))
        (pss_one (ps_set (i := 3) sc_Lspeech.nd rfl (.inl rfl) (pe_op op_cat (pe_op op_cat (pe_slice sl_list (pv 3) po_none (po_some (pv 5))) (pv 6)) (pe_slice sl_list (pv 3) (po_some (pv 5)) po_none)))) pss_nil)))))
    (pss_one (ps_ret (pv 3)))), ?_⟩
  refine ⟨_, rfl, _, rfl, _, _, rfl, rfl, bg, lb, n + 1, rfl, by omega, by omega, hB, fun H1 v1 s1 hB1 hv1 => ?_⟩
  have hWb := hB.words hW
  refine ⟨_, rfl, by decide, fun q nq => ⟨wp, q, ws, [], rfl, rfl, SqL.of (same_new nq _ _ (s1 _ _ (fun e => hWb (List.mem_singleton.mp e)) hW)), SqL.of upd_same, ?_⟩⟩
  have s2 : SL [bg] H (upd H1 q (.lst [])) := s1.new nq
  have hB2 : Bag (upd H1 q (.lst [])) bg lb := hB1.mono (same_new nq)
  generalize upd H1 q (.lst []) = H2 at s2 hB2
  refine .inr ⟨true, by show [V.bl (!decide (ws = []))] = _; rw [decide_eq_false hne]; rfl, _, _, rfl, rfl, .inr ⟨by decide, by decide⟩, v1, by show [V.int ((v1 : Int) * 1)] = _; rw [Int.mul_one], by omega, by omega, fun D nD => ?_⟩
  have nDb := hB2.new nD
  have nDH : H D = none := s2.free (fun e => nDb.1 (List.mem_singleton.mp e)) nD
  refine lc_range (lo := 0) (n := (v1 : Int).toNat) (fun i H7 => SL [bg] H H7 ∧ Bag H7 bg lb ∧ i ≤ 6 ∧ ∃ us, LS H7 D us ∧ us.length = i ∧ ∀ x ∈ us, x ∈ ws) ⟨s2.new nD, hB2.mono (same_new nD), by omega, [], upd_same, rfl, fun x hx => absurd hx List.not_mem_nil⟩ ?_ ?_
  · rintro i H7 hi ⟨s7, hB7, _, us, h7, e7, w7⟩
    rw [Int.toNat_natCast] at hi
    refine ⟨rfl, ?_⟩
    unfold tYes
    refine iteT ?_
    have hW7 := s7 _ _ (fun e => hWb (List.mem_singleton.mp e)) hW
    refine ⟨_, rfl, _, rfl, _, rfl, wp, _, rfl, .inl (SqL.of hW7), bg, lb, _, rfl, by rw [List.length_map]; exact List.length_pos_iff.mpr hne, by rw [List.length_map]; omega, hB7, fun H8 v s8 hB8 hv => ?_⟩
    rw [List.length_map] at hv
    have h8 := s8 _ _ (fun e => nDb.1 (List.mem_singleton.mp e)) h7
    refine ⟨wp, _, v, _, rfl, rfl, SqL.of (s8 _ _ (fun e => hWb (List.mem_singleton.mp e)) hW7), atI_strs hv, us.map V.str, h8, small_line' (by rw [List.length_map]; omega), (s7.trans s8).put nDH, hB8.put nDb, by omega, us ++ [ws[v]], ?_, by rw [List.length_append, e7]; rfl, fun y hy => ?_⟩
    · show upd _ _ _ _ = _
      rw [upd_same, List.map_append]; rfl
    · rcases List.mem_append.mp hy with hy | hy
      · exact w7 y hy
      · rw [List.mem_singleton.mp hy]; exact List.getElem_mem hv
  · rintro H7 ⟨s7, hB7, _, us, h7, e7, w7⟩
    rw [Int.toNat_natCast] at e7
    refine ⟨_, rfl, bg, lb, 4, rfl, by decide, by decide, hB7, fun H8 v2 s8 hB8 hv2 => ⟨v2, rfl, by omega, by omega, ?_⟩⟩
    have h8 : LS H8 D us := s8 _ _ (fun e => nDb.1 (List.mem_singleton.mp e)) h7
    refine for_range (lo := 0) (n := (v2 : Int).toNat) (fun i σ H9 => ∃ (D : Addr) (us : List Str) (x4 x5 x6 : Option V), σ = [some (.ref bg), some (.ref wp), some (.int n), some (.ref D), x4, x5, x6] ∧ SL [bg] H H9 ∧ Bag H9 bg lb ∧ LS H9 D us ∧ us.length ≤ n ∧ (∀ x ∈ us, x ∈ ws) ∧ H D = none)
      ⟨D, us, none, none, none, rfl, s7.trans s8, hB8, h8, by omega, w7, nDH⟩ ?_ ?_
    · rintro i σ H9 hi ⟨D, us, x4, x5, x6, rfl, s9, hB9, h9, l9, w9, nD9⟩
      have nD9b : D ≠ bg := hB9.words h9
      refine ⟨_, rfl, _, rfl, D, _, rfl, .inl (SqL.of h9), _, _, rfl, rfl, bg, lb, (us.map V.str).length + 1, rfl, by omega, by rw [List.length_map]; omega, hB9, fun H10 v3 s10 hB10 hv3 => ?_⟩
      rw [List.length_map] at hv3
      have h10 := s10 _ _ (fun e => nD9b (List.mem_singleton.mp e)) h9
      refine ⟨_, rfl, _, rfl, _, rfl, _, rfl, _, _, rfl, rfl, _, rfl, bg, lb, 4, rfl, by decide, by decide, hB10, fun H11 v4 s11 hB11 hv4 => ⟨_, _, rfl, rfl, _, rfl, D, _, rfl, SqL.of (s11 _ _ (fun e => nD9b (List.mem_singleton.mp e)) h10), fun q nq => ?_⟩⟩
      have h11 : LS H11 D us := s11 _ _ (fun e => nD9b (List.mem_singleton.mp e)) h10
      have s12 : SL [bg] H H11 := (s9.trans s10).trans s11
      have eb : ((v3 : Int) + 1 + (v4 : Int)) = ((v3 + 1 + v4 : Nat) : Int) := by omega
      have ec : cutV (us.map V.str) (some (v3 : Int)) (some ((v3 : Int) + 1 + (v4 : Int))) = ((us.take (v3 + 1 + v4)).drop v3).map V.str := by rw [eb, cut_mid]
      have wp13 : ∀ x ∈ (us.take (v3 + 1 + v4)).drop v3, x ∈ us := fun x hx => List.mem_of_mem_take (List.mem_of_mem_drop hx)
      have s13 : SL [bg] H (upd H11 q (.lst (cutV (us.map V.str) (some (v3 : Int)) (some ((v3 : Int) + 1 + (v4 : Int)))))) := s12.new nq
      have hB13 : Bag (upd H11 q (.lst (cutV (us.map V.str) (some (v3 : Int)) (some ((v3 : Int) + 1 + (v4 : Int)))))) bg lb := hB11.mono (same_new nq)
      have h13 : LS (upd H11 q (.lst (cutV (us.map V.str) (some (v3 : Int)) (some ((v3 : Int) + 1 + (v4 : Int)))))) D us := same_new nq _ _ h11
      have hq13 : LS (upd H11 q (.lst (cutV (us.map V.str) (some (v3 : Int)) (some ((v3 : Int) + 1 + (v4 : Int)))))) q ((us.take (v3 + 1 + v4)).drop v3) := by
        show upd _ _ _ _ = _
        rw [upd_same, ec]
      generalize (us.take (v3 + 1 + v4)).drop v3 = pc at hq13 wp13
      refine ⟨_, rfl, D, _, rfl, .inl (SqL.of h13), _, rfl, q, _, rfl, .inl (SqL.of hq13), _, _, rfl, rfl, _, rfl, _, _, rfl, rfl, _, rfl, ?_⟩
      by_cases hle : us.length + pc.length ≤ n
      · refine iteTb (decide_eq_true (by rw [List.length_map, List.length_map]; omega)) ?_
        refine ⟨_, rfl, _, rfl, _, rfl, D, _, rfl, SqL.of h13, fun p1 np1 => ?_⟩
        rw [cut_take]
        generalize upd H11 q (.lst (cutV (us.map V.str) (some (v3 : Int)) (some ((v3 : Int) + 1 + (v4 : Int))))) = H13 at s13 hB13 h13 hq13 np1
        have s14 := s13.new (o := .lst ((us.take v3).map V.str)) np1
        have hB14 : Bag (upd H13 p1 (.lst ((us.take v3).map V.str))) bg lb := hB13.mono (same_new np1)
        have h14 : LS (upd H13 p1 (.lst ((us.take v3).map V.str))) D us := same_new np1 _ _ h13
        have hq14 : LS (upd H13 p1 (.lst ((us.take v3).map V.str))) q pc := same_new np1 _ _ hq13
        have hp14 : LS (upd H13 p1 (.lst ((us.take v3).map V.str))) p1 (us.take v3) := upd_same
        generalize upd H13 p1 (.lst ((us.take v3).map V.str)) = H14 at s14 hB14 h14 hq14 hp14
        refine ⟨_, rfl, p1, q, _, _, rfl, rfl, hp14, hq14, small_line (by rw [List.length_map, List.length_map, List.length_take]; omega), fun p2 np2 => ?_⟩
        have s15 := s14.new (o := .lst ((us.take v3).map V.str ++ pc.map V.str)) np2
        have hB15 : Bag (upd H14 p2 (.lst ((us.take v3).map V.str ++ pc.map V.str))) bg lb := hB14.mono (same_new np2)
        have h15 : LS (upd H14 p2 (.lst ((us.take v3).map V.str ++ pc.map V.str))) D us := same_new np2 _ _ h14
        have hp15 : upd H14 p2 (.lst ((us.take v3).map V.str ++ pc.map V.str)) p2 = some (.lst ((us.take v3).map V.str ++ pc.map V.str)) := upd_same
        generalize upd H14 p2 (.lst ((us.take v3).map V.str ++ pc.map V.str)) = H15 at s15 hB15 h15 hp15
        refine ⟨_, rfl, _, rfl, _, rfl, D, _, rfl, SqL.of h15, fun p3 np3 => ?_⟩
        rw [cut_drop]
        have s16 := s15.new (o := .lst ((us.drop v3).map V.str)) np3
        have hB16 : Bag (upd H15 p3 (.lst ((us.drop v3).map V.str))) bg lb := hB15.mono (same_new np3)
        have hp16 : upd H15 p3 (.lst ((us.drop v3).map V.str)) p2 = some (.lst ((us.take v3).map V.str ++ pc.map V.str)) := same_new np3 _ _ hp15
        have hp16' : upd H15 p3 (.lst ((us.drop v3).map V.str)) p3 = some (.lst ((us.drop v3).map V.str)) := upd_same
        generalize upd H15 p3 (.lst ((us.drop v3).map V.str)) = H16 at s16 hB16 hp16 hp16'
        refine ⟨p2, p3, _, _, rfl, rfl, hp16, hp16', small_line (by rw [List.length_append, List.length_map, List.length_map, List.length_map, List.length_take, List.length_drop]; omega), fun p4 np4 => ?_⟩
        have nD4 := hB16.new np4
        refine ⟨p4, us.take v3 ++ pc ++ us.drop v3, _, _, _, rfl, s16.new np4, hB16.mono (same_new np4), ?_, by rw [List.length_append, List.length_append, List.length_take, List.length_drop]; omega, fun x hx => ?_, s16.free (fun e => nD4.1 (List.mem_singleton.mp e)) np4⟩
        · show upd _ _ _ _ = _
          rw [upd_same, List.map_append, List.map_append]
        · rcases List.mem_append.mp hx with hx | hx
          · rcases List.mem_append.mp hx with hx | hx
            · exact w9 x (List.mem_of_mem_take hx)
            · exact w9 x (wp13 x hx)
          · exact w9 x (List.mem_of_mem_drop hx)
      · refine iteFb (decide_eq_false (by rw [List.length_map, List.length_map]; omega)) ?_
        exact ⟨D, us, _, _, _, rfl, s13, hB13, h13, l9, w9, nD9⟩
    · rintro σ H9 ⟨D, us, x4, x5, x6, rfl, s9, hB9, h9, l9, w9, nD9⟩
      exact ⟨_, rfl, k H9 D us s9 hB9 nD9 h9 l9 w9⟩
end
end Tw
end
section
/-! text L5 -/
set_option maxHeartbeats 4000000
namespace Tw
open PySem PySem.Spec PyProof.Rows L2 LamX NdefX
theorem Tabs.sl {Ts : List (Addr × Str)} {ch : List Addr} {H H' : Hp} (T : Tabs Ts H) (s : SL ch H H') (hc : ∀ x ∈ ch, (∃ C dx fs, H x = some (.ins C dx fs)) ∨ ∃ xs, H x = some (.lst xs)) : Tabs Ts H' := by
  intro p hp
  obtain ⟨ps, h1, h2, h3⟩ := T p hp
  have n1 : p.1 ∉ ch := fun e => by
    rcases hc _ e with ⟨C, dx, fs, z⟩ | ⟨xs, z⟩ <;> rw [h1] at z <;> cases z
  refine ⟨ps, s _ _ n1 h1, h2, fun pos cv hcv => ?_⟩
  obtain ⟨c, e1, e2⟩ := h3 pos cv hcv
  refine ⟨c, e1, s _ _ (fun e => ?_) e2⟩
  rcases hc _ e with ⟨C, dx, fs, z⟩ | ⟨xs, z⟩ <;> rw [e2] at z <;> (unfold CodeO at z; cases z)
theorem Bag.extN {H H' : Hp} {bg lb : Addr} (h : Bag H bg lb) (s : ExtN H H') : Bag H' bg lb :=
  let ⟨a, b, c, ns, h1, h2, n⟩ := h
  ⟨a, b, c, ns, s _ _ h1 (fun _ e => by cases e), s _ _ h2 (fun _ e => by cases e), n⟩
theorem Tk.kind {K : PySem.W.Frag} {H : Hp} {t pl : Addr} {said : List Str} {L : List (Str × Nat)} {N : Nat} (h : Tk K H t pl said L N) : (∃ C dx fs, H t = some (.ins C dx fs)) ∧ ∃ xs, H pl = some (.lst xs) := by
  obtain ⟨dx, sp, sd, cl, past, kvs, D⟩ := h
  exact ⟨⟨_, _, _, D.obj⟩, _, D.pst⟩
end Tw
end
section
/-! text L6 -/
set_option maxHeartbeats 4000000
namespace Tw
open PySem PySem.Spec PyProof.Rows L2 LamX NdefX
theorem Tk.apart {K : PySem.W.Frag} {H : Hp} {t pl p : Addr} {said ws : List Str} {L : List (Str × Nat)} {N : Nat} (h : Tk K H t pl said L N) (hp : LS H p ws) (hne : ws ≠ []) : p ≠ t ∧ p ≠ pl := by
  obtain ⟨dx, sp, sd, cl, past, kvs, D⟩ := h
  have hp : H p = some (.lst (ws.map V.str)) := hp
  refine ⟨fun e => ?_, fun e => ?_⟩
  · subst e
    have := D.obj
    rw [hp] at this
    cases this
  · subst e
    have := D.pst
    rw [hp] at this
    have e2 := HO.lst.inj (Option.some.inj this)
    cases ws with
    | nil => exact hne rfl
    | cons x ws =>
      obtain ⟨a, ha⟩ := D.pr (.str x) (by rw [← e2]; exact List.mem_cons_self)
      cases ha
theorem Tk.bag {K : PySem.W.Frag} {H : Hp} {t pl bg lb : Addr} {said : List Str} {L : List (Str × Nat)} {N : Nat} (h : Tk K H t pl said L N) (hB : Bag H bg lb) : (bg ≠ t ∧ bg ≠ pl) ∧ lb ≠ t := by
  obtain ⟨dx, sp, sd, cl, past, kvs, D⟩ := h
  obtain ⟨a, b, c, ns, h1, h2, _⟩ := hB
  refine ⟨⟨fun e => ?_, fun e => ?_⟩, fun e => ?_⟩
  · subst e
    have := D.obj
    rw [h1] at this
    cases this
  · subst e
    have := D.pst
    rw [h1] at this
    have e2 := HO.lst.inj (Option.some.inj this)
    obtain ⟨a, ha⟩ := D.pr (.int a) (by rw [← e2]; exact List.mem_cons_self)
    cases ha
  · subst e
    have := D.obj
    rw [h2] at this
    cases this
/-- what a talk keeps where only the bag goes on -/
theorem Tk.sl {K : PySem.W.Frag} {H H' : Hp} {t pl bg lb : Addr} {said : List Str} {L : List (Str × Nat)} {N : Nat} (h : Tk K H t pl said L N) (s : SL [bg] H H') (hB : Bag H bg lb) : Tk K H' t pl said L N := by
  have nb := h.bag hB
  obtain ⟨dx, sp, sd, cl, past, kvs, D⟩ := h
  obtain ⟨a, b, c, ns, h1, h2, _⟩ := id hB
  have k : ∀ x o, H x = some o → x ≠ bg → H' x = some o := fun x o e n => s x o (fun z => n (List.mem_singleton.mp z)) e
  refine ⟨dx, sp, sd, cl, past, kvs, ⟨k _ _ D.obj nb.1.1.symm, k _ _ D.spk (hB.words D.spk), k _ _ D.pst nb.1.2.symm, D.few, ⟨k _ _ D.seat.dict (fun e => ?_), D.seat.len, fun i x n e => ?_⟩, D.ne, D.pr⟩⟩
  · have := D.seat.dict
    rw [e, h1] at this
    cases this
  · obtain ⟨q, dd, e1, e2, e3⟩ := D.seat.at_ i x n e
    refine ⟨q, dd, e1, k _ _ e2 (fun z => ?_), k _ _ e3 (fun z => ?_)⟩
    · rw [z, h1] at e2
      cases e2
    · rw [z, h1] at e3
      cases e3
/-- what the bag keeps where only the talk goes on; its list is apart from the talk's past -/
theorem Bag.sl {H H' : Hp} {t pl bg lb : Addr} (hB : Bag H bg lb) (s : SL [t, pl] H H') (h1 : bg ≠ t ∧ bg ≠ pl) (h2 : lb ≠ t ∧ lb ≠ pl) : Bag H' bg lb := by
  obtain ⟨a, b, c, ns, g1, g2, g3⟩ := hB
  exact ⟨a, b, c, ns, s _ _ (by simp [h1.1, h1.2]) g1, s _ _ (by simp [h2.1, h2.2]) g2, g3⟩
theorem keepT {K : PySem.W.Frag} {H H' : Hp} {t pl bg lb rp wp : Addr} {said r ws : List Str} {L : List (Str × Nat)} {N : Nat} {Ts : List (Addr × Str)} (tk : Tk K H t pl said L N) (s : SL [t, pl] H H') (hB : Bag H bg lb) (nlp : lb ≠ pl) (hR : LS H rp r) (rne : r ≠ []) (hW : LS H wp ws) (wne : ws ≠ []) (hT : Tabs Ts H) :
    Bag H' bg lb ∧ LS H' rp r ∧ LS H' wp ws ∧ Tabs Ts H' := by
  have a := tk.apart hR rne
  have b := tk.apart hW wne
  have c := tk.bag hB
  refine ⟨hB.sl s c.1 ⟨c.2, nlp⟩, s _ _ (by simp [a.1, a.2]) hR, s _ _ (by simp [b.1, b.2]) hW, Tabs.sl hT s fun x hx => ?_⟩
  rcases List.mem_cons.mp hx with e | hx
  · rw [e]; exact .inl tk.kind.1
  · rw [List.mem_singleton.mp hx]; exact .inr tk.kind.2
theorem keepB {H H' : Hp} {bg lb rp wp : Addr} {r ws : List Str} {Ts : List (Addr × Str)} (s : SL [bg] H H') (hB : Bag H bg lb) (hR : LS H rp r) (hW : LS H wp ws) (hT : Tabs Ts H) : LS H' rp r ∧ LS H' wp ws ∧ Tabs Ts H' := by
  refine ⟨s _ _ (fun e => hB.words hR (List.mem_singleton.mp e)) hR, s _ _ (fun e => hB.words hW (List.mem_singleton.mp e)) hW, Tabs.sl hT s fun x hx => ?_⟩
  obtain ⟨a, b, c, ns, g1, _⟩ := hB
  rw [List.mem_singleton.mp hx]
  exact .inr ⟨_, g1⟩
theorem drop_app {α : Type} {u v : List α} {n : Nat} (h : n ≤ u.length) : (u ++ v).drop n = u.drop n ++ v := by rw [List.drop_append_of_le_length h]
theorem since_low {said r ex : List Str} {nb nc ρ : Nat} (hns : ¬ Sim (said.drop nb) (said.drop nc)) (h1 : nb ≤ ρ) (h2 : nc ≤ ρ) (g : Sim (((said ++ r ++ ex).take ρ).drop nb) (((said ++ r ++ ex).take ρ).drop nc)) : said.length < ρ := by
  refine Nat.lt_of_not_le fun hle => hns ?_
  rw [List.append_assoc, List.take_append_of_le_length hle] at g
  have e : ∀ n, n ≤ ρ → said.drop n = (said.take ρ).drop n ++ said.drop ρ := fun n hn => by
    have := drop_app (u := said.take ρ) (v := said.drop ρ) (n := n) (by rw [List.length_take]; omega)
    rw [List.take_append_drop] at this
    exact this
  rw [e nb h1, e nc h2]
  exact g.right _
theorem since_high {said r ex : List Str} {nb nc ρ : Nat} (h1 : nc ≤ said.length) (h2 : nb ≤ said.length) (hs : Sim ((said ++ r).drop nb) ((said ++ r).drop nc)) (g : ρ = max nb nc ∨ ¬ Sim (((said ++ r ++ ex).take (ρ - 1)).drop nb) (((said ++ r ++ ex).take (ρ - 1)).drop nc)) : ρ ≤ said.length + r.length := by
  refine Nat.le_of_not_lt fun hlt => ?_
  rcases g with g | g
  · omega
  · refine g ?_
    have e : (said ++ r ++ ex).take (ρ - 1) = said ++ r ++ ex.take (ρ - 1 - (said ++ r).length) := by
      rw [List.take_append, List.take_of_length_le (by rw [List.length_append]; omega)]
    rw [e, drop_app (u := said ++ r) (by rw [List.length_append]; omega), drop_app (u := said ++ r) (n := nc) (by rw [List.length_append]; omega)]
    exact hs.right _
section
variable {P : Program} {w : World} {K : PySem.W.Frag} {mg : Str → Option Value} {base : Heap}
/-- b's and c's seats -/
abbrev L2s (nc nb : Nat) : List (Str × Nat) := [("c", nc), ("b", nb)]
def spHl (K : PySem.W.Frag) (Ts : List (Addr × Str)) : Sp := fun vs H Q _ => ∃ t rp bg wp pl lb said ws r nc nb N, vs = [.ref t, .ref rp, .ref bg, .ref wp] ∧ Tk K H t pl said (L2s nc nb) N ∧ Bag H bg lb ∧ lb ≠ pl ∧ LS H rp r ∧ LS H wp ws ∧ Tabs Ts H ∧ ws ≠ [] ∧ ws.length ≤ 4 ∧ (∀ x ∈ ws, WordOk x) ∧ (∀ x ∈ said ++ r, x ∈ ws) ∧
  nc ≤ said.length ∧ nb ≤ said.length ∧ said.length + r.length ≤ 200 ∧ N ≤ 100 ∧ r ≠ [] ∧ ¬ Sim (said.drop nb) (said.drop nc) ∧ Sim ((said ++ r).drop nb) ((said ++ r).drop nc) ∧ ∀ H', Q (.bl true) H'
theorem ok_Lhealed {Pt : Addr} (T : TX K mg) (TB : TabB base mg (He.codeOf K kSince) Pt) : Cal P w K mg base 25 "_law_healed" ["_law_talk", "_law_row", "_law_bag_here", "_law_words"] (spHl K [(Pt, lamName)]) := by
  have Gt := ok_Ltake (P := P) (w := w) (base := base) T
  have Gsd := ok_said (P := P) (w := w) (base := base) T
  have Gte := ok_tell (P := P) (w := w) (base := base) T
  have Gdo := ok_door (P := P) (w := w) (base := base) T
  have Gci := ok_circles (P := P) (w := w) (base := base) T
  have Gsi := ok_since (P := P) (w := w) T TB
  have Gsy := ok_say (P := P) (w := w) (base := base) T
  have Ghd := ok_heard (P := P) (w := w) (base := base) T
  refine mk_cal (y := "_law_healed") (st := s_Lhealed) T 43 43 rfl rfl sc_Lhealed (fun _ _ _ _ _ _ us hl => match us, hl with | [_, _, _, _], _ => rfl) (fun vs H Q E h => ?_) (fun cdv A outer s H vs Q E hr h => ?_)
  · obtain ⟨t, rp, bg, wp, pl, lb, said, ws, r, nc, nb, N, rfl, _⟩ := h; rfl
  obtain ⟨t, rp, bg, wp, pl, lb, said, ws, r, nc, nb, N, rfl, tk, hB, nlp, hR, hW, hT, wne, w4, wok, wsub, lc, lb', l200, hN, rne, hns, hs, k⟩ := h
  refine ⟨_, pss_cons (ps_set (i := 4) sc_Lhealed.nd rfl (.inl rfl) (plen T (pm0 (pv 0) Gsd (hr.mono (by omega)))))
    (pss_cons (ps_expr (pm (pv 0) Gte (hr.mono (by omega)) (pa_cons (pe_callTy call_list_of rfl (T.free 54 rfl) bo_list (pa_cons (pv 1) pa_nil)) pa_nil)))
    (pss_cons (ps_for PassesOwn.never rfl (pi_range1 rfl (T.free 59 rfl) (pa_cons pe_int pa_nil)) (pg_name (i := 5) sc_Lhealed.nd rfl (.inl rfl))
      (pss_cons (ps_if (pw_or (pt_cmpR (op_neD hr.units) (pm (pv 0) Gdo hr (pa_cons pe_str (pa_cons pe_str pa_nil))) (pe_tup (pa_cons pe_str pa_nil)) (nomark _)) (pw_or1 (pt_cmpR (op_neD hr.units) (pm0 (pv 0) Gci (hr.mono (by omega))) (pe_lst (pa_cons (pe_lst (pa_cons pe_str (pa_cons pe_str pa_nil))) pa_nil)) (nomark _)))).pt pss_never pss_nil)
      (pss_cons (ps_if (pt_not (pt_chain op_lt op_le (pv 4) (pm (pv 0) Gsi (hr.mono (by omega)) (pa_cons pe_str (pa_cons pe_str pa_nil))) (pe_op op_add (pv 4) (plen T (pv 1))))) pss_never pss_nil)
      (pss_one (ps_expr (pm (pv 0) Gsy (hr.mono (by omega)) (pa_cons (pe_ix ix_list (pv 3) (pc Gt (hr.mono (by omega)) (pa_cons (pv 2) (pa_cons (plen T (pv 3)) pa_nil))) (fun _ _ => rfl)) pa_nil)))))))
    (pss_one (ps_ret (pe_cmpR (op_eqS hr.units0) (pm (pv 0) Ghd (hr.mono (by omega)) (pa_cons pe_str pa_nil)) (pm (pv 0) Ghd (hr.mono (by omega)) (pa_cons pe_str pa_nil)) (nomark _)))))), ?_⟩
  have hnm : Names (L2s nc nb) := (by decide : (["c", "b"] : List Str).Nodup)
  have mc : (("c" : Str), nc) ∈ L2s nc nb := List.mem_cons_self
  have mb : (("b" : Str), nb) ∈ L2s nc nb := List.mem_cons_of_mem _ List.mem_cons_self
  obtain ⟨dx, sp, sd, cl, past, kvs, D⟩ := id tk
  refine ⟨_, rfl, t, dx, _, rfl, D.obj, rfl, t, pl, said, L2s nc nb, N, rfl, tk, fun H1 p s1 np hp => ⟨p, _, rfl, .inl (SqL.of hp), ?_⟩⟩
  rw [List.length_map]
  have tk1 := tk.mono s1
  have hR1 := s1 _ _ hR
  have hW1 := s1 _ _ hW
  obtain ⟨dx1, sp1, sd1, cl1, past1, kvs1, D1⟩ := id tk1
  refine ⟨_, rfl, t, dx1, _, rfl, D1.obj, rfl, _, rfl, rp, _, rfl, .inl (SqL.of hR1), fun l nl => ?_⟩
  have s2 : Same H (upd H1 l (.lst (r.map V.str))) := s1.new nl
  have hl2 : LS (upd H1 l (.lst (r.map V.str))) l r := upd_same
  generalize upd H1 l (.lst (r.map V.str)) = H2 at s2 hl2
  have tk2 := tk.mono s2
  refine ⟨t, pl, said, L2s nc nb, N, l, r, rfl, tk2, hl2, ⟨by omega, fun x hx => wok x (wsub x (List.mem_append_right _ hx)), ⟨ws, by omega, fun x hx => wsub x (List.mem_append_right _ hx)⟩⟩, ⟨ws, w4, wsub⟩, by omega, by omega, fun H3 sp3 s3 _ tkS3 => ?_⟩
  have tk3 := tkS3.tk
  obtain ⟨hB3, hR3, hW3, hT3⟩ := keepT tk2 s3 (hB.mono s2) nlp (s2 _ _ hR) rne (s2 _ _ hW) wne (hT.ext s2)
  refine ⟨4, rfl, by decide, by decide, ?_⟩
  refine for_range (lo := 0) (n := (4 : Int).toNat) (fun i σ H7 => ∃ x5 ex, σ = [some (.ref t), some (.ref rp), some (.ref bg), some (.ref wp), some (.int (said.length : Nat)), x5] ∧ ex.length = i ∧ i ≤ 4 ∧ (∀ x ∈ ex, x ∈ ws) ∧ Tk K H7 t pl (said ++ r ++ ex) (L2s nc nb) (N + 1 + i) ∧ Bag H7 bg lb ∧ LS H7 rp r ∧ LS H7 wp ws ∧ Tabs [(Pt, lamName)] H7)
    ⟨none, [], rfl, rfl, by decide, fun x hx => absurd hx List.not_mem_nil, by rw [List.append_nil]; exact tk3, hB3, hR3, hW3, hT3⟩ ?_ ?_
  · rintro i σ H7 hi ⟨x5, ex, rfl, lex, hi4, wex, tk7, hB7, hR7, hW7, hT7⟩
    have hi : i < 4 := hi
    have hsim : Sim ((said ++ r ++ ex).drop nb) ((said ++ r ++ ex).drop nc) := by
      rw [drop_app (u := said ++ r) (by rw [List.length_append]; omega), drop_app (u := said ++ r) (n := nc) (by rw [List.length_append]; omega)]
      exact hs.right ex
    have wall : ∀ x ∈ said ++ r ++ ex, x ∈ ws := fun x hx => (List.mem_append.mp hx).elim (wsub x) (wex x)
    have len7 : (said ++ r ++ ex).length = said.length + r.length + i := by rw [List.length_append, List.length_append, lex]
    have f4 : Few 4 (said ++ r ++ ex) := ⟨ws, w4, wall⟩
    generalize hS : said ++ r ++ ex = S at hsim wall len7 f4 tk7
    have wokS : ∀ x ∈ S, WordOk x := fun x hx => wok x (wall x hx)
    obtain ⟨dx7, sp7, sd7, cl7, past7, kvs7, D7⟩ := id tk7
    refine ⟨_, rfl, t, dx7, _, rfl, D7.obj, rfl, t, pl, S, L2s nc nb, _, "c", nc, "b", nb, rfl, tk7, hnm, mc, mb, word_c, word_b, by omega, f4, wokS, fun z => absurd hsim.symm z, fun H8 d s8 dA => ?_⟩
    have hd8 := dA.al hsim.symm
    refine ⟨by show 1 ≤ sizeLine; decide, fun q nq => ⟨.tuple [.str "alike"], .tuple [.str "alike"], .tup (SqT.of (same_new nq _ _ hd8)) (.cons (.str _) .nil), .tup (SqT.of upd_same) (.cons (.str _) .nil), by decide +kernel, by decide +kernel, _, rfl, iteFb (by decide +kernel) ?_⟩⟩
    have s9 := s8.new (o := .tup [V.str "alike"]) nq
    generalize upd H8 q (.tup [V.str "alike"]) = H9 at s9
    have tk9 := tk7.mono s9
    obtain ⟨dx9, sp9, sd9, cl9, past9, kvs9, D9⟩ := id tk9
    refine ⟨_, rfl, t, dx9, _, rfl, D9.obj, rfl, t, pl, S, nc, nb, _, rfl, tk9, f4, by omega, fun H10 c s10 cA => ?_⟩
    rcases cA with ⟨_, l1, hc10, hl10⟩ | ⟨z, _⟩
    · refine ⟨by show 2 ≤ sizeLine; decide, fun q1 nq1 => ⟨by show 1 ≤ sizeLine; decide, fun q2 nq2 => ?_⟩⟩
      have s11 := (s10.new (o := .lst [V.str "b", V.str "c"]) nq1).new (o := .lst [V.ref q1]) nq2
      have hc11 := same_new (o := .lst [V.ref q1]) nq2 _ _ (same_new (o := .lst [V.str "b", V.str "c"]) nq1 _ _ hc10)
      have hl11 : upd (upd H10 q1 (.lst [V.str "b", V.str "c"])) q2 (.lst [V.ref q1]) l1 = some (.lst [V.str "b", V.str "c"]) := same_new nq2 _ _ (same_new nq1 _ _ hl10)
      have hq11 := same_new (o := .lst [V.ref q1]) nq2 _ _ (show upd H10 q1 (.lst [V.str "b", V.str "c"]) q1 = some (.lst [V.str "b", V.str "c"]) from upd_same)
      refine ⟨.list [.list [.str "b", .str "c"]], .list [.list [.str "b", .str "c"]], .lst (SqL.of hc11) (.cons (.lst (SqL.of hl11) (.cons (.str _) (.cons (.str _) .nil))) .nil), .lst (SqL.of upd_same) (.cons (.lst (SqL.of hq11) (.cons (.str _) (.cons (.str _) .nil))) .nil), by decide +kernel, by decide +kernel, _, rfl, iteFb (by decide +kernel) ?_⟩
      have s12 := s9.trans s11
      generalize upd (upd H10 q1 (.lst [V.str "b", V.str "c"])) q2 (.lst [V.ref q1]) = H11 at s12
      have tk11 := tk7.mono s12
      obtain ⟨dx11, sp11, sd11, cl11, past11, kvs11, D11⟩ := id tk11
      refine ⟨_, rfl, _, rfl, t, dx11, _, rfl, D11.obj, rfl, t, pl, S, L2s nc nb, _, "b", nb, "c", nc, rfl, tk11, hnm, mb, mc, word_b, word_c, by omega, by omega, by omega, f4, hT7.ext s12, hsim, fun H12 ρ eN hT12 g1 g2 g3 g4 => ?_⟩
      have hW12 := LS.extN (hW7 |> fun z => (s12 _ _ z : LS H11 wp ws)) eN
      have hR12 := LS.extN (hR7 |> fun z => (s12 _ _ z : LS H11 rp r)) eN
      have hB12 := (hB7.mono s12).extN eN
      have tk12 := tk11.extN eN
      have b1 : said.length < ρ := since_low hns (by omega) (by omega) (by rw [← hS] at g3; exact g3)
      have b2 : ρ ≤ said.length + r.length := since_high lc lb' hs (by rw [← hS] at g4; exact g4)
      refine ⟨_, _, rfl, rfl, _, rfl, iteTb (decide_eq_true (by omega)) ?_⟩
      refine ⟨_, rfl, _, rfl, rp, _, rfl, .inl (SqL.of hR12), _, _, rfl, rfl, _, _, rfl, rfl, _, rfl, iteFb (by rw [List.length_map, decide_eq_true (by omega)]; rfl) ?_⟩
      obtain ⟨dx12, sp12, sd12, cl12, past12, kvs12, D12⟩ := id tk12
      refine ⟨_, rfl, t, dx12, _, rfl, D12.obj, rfl, _, rfl, _, rfl, _, rfl, wp, _, rfl, .inl (SqL.of hW12), bg, lb, _, rfl, by rw [List.length_map]; exact List.length_pos_iff.mpr wne, by rw [List.length_map]; omega, hB12, fun H13 v s13 hB13 hv => ?_⟩
      rw [List.length_map] at hv
      obtain ⟨hR13, hW13, hT13⟩ := keepB s13 hB12 hR12 hW12 hT12
      have tk13 := tk12.sl s13 hB12
      have hwv : ws[v] ∈ ws := List.getElem_mem hv
      refine ⟨wp, _, v, _, rfl, rfl, SqL.of hW13, atI_strs hv, t, pl, S, L2s nc nb, _, ws[v], rfl, tk13, wok _ hwv, ⟨ws, w4, fun x hx => (List.mem_append.mp hx).elim (wall x) fun z => by rw [List.mem_singleton.mp z]; exact hwv⟩, by omega, by omega, fun H14 sp14 s14 _ tkS14 => ?_⟩
      have tk14 := tkS14.tk
      obtain ⟨hB14, hR14, hW14, hT14⟩ := keepT tk13 s14 hB13 nlp hR13 rne hW13 wne hT13
      refine ⟨_, ex ++ [ws[v]], rfl, by rw [List.length_append, lex]; rfl, by omega, fun x hx => (List.mem_append.mp hx).elim (wex x) fun z => by rw [List.mem_singleton.mp z]; exact hwv, ?_, hB14, hR14, hW14, hT14⟩
      rw [← List.append_assoc, hS]
      exact tk14
    · exact absurd hsim z
  · rintro σ H7 ⟨x5, ex, rfl, lex, hi4, wex, tk7, hB7, hR7, hW7, hT7⟩
    have lex : ex.length = 4 := lex
    have hsim : Sim ((said ++ r ++ ex).drop nb) ((said ++ r ++ ex).drop nc) := by
      rw [drop_app (u := said ++ r) (by rw [List.length_append]; omega), drop_app (u := said ++ r) (n := nc) (by rw [List.length_append]; omega)]
      exact hs.right ex
    have wall : ∀ x ∈ said ++ r ++ ex, x ∈ ws := fun x hx => (List.mem_append.mp hx).elim (wsub x) (wex x)
    have len7 : (said ++ r ++ ex).length = said.length + r.length + 4 := by rw [List.length_append, List.length_append, lex]
    have f4 : Few 4 (said ++ r ++ ex) := ⟨ws, w4, wall⟩
    generalize hS : said ++ r ++ ex = S at hsim wall len7 f4 tk7
    obtain ⟨dx7, sp7, sd7, cl7, past7, kvs7, D7⟩ := id tk7
    refine ⟨_, rfl, t, dx7, _, rfl, D7.obj, rfl, t, pl, S, L2s nc nb, _, "b", nb, rfl, tk7, hnm, mb, word_b, by omega, f4, fun H8 p s8 np hp => ?_⟩
    have tk8 := tk7.mono s8
    obtain ⟨dx8, sp8, sd8, cl8, past8, kvs8, D8⟩ := id tk8
    refine ⟨_, rfl, t, dx8, _, rfl, D8.obj, rfl, t, pl, S, L2s nc nb, _, "c", nc, rfl, tk8, hnm, mc, word_c, by omega, f4, fun H9 q s9 nq hq => ?_⟩
    refine ⟨p, q, _, _, rfl, rfl, SqL.of (s9 _ _ hp), SqL.of hq, ?_⟩
    have e : (decide (short (S.drop nb) = short (S.drop nc))) = true := decide_eq_true hsim
    have kk := k H9
    rw [← e] at kk
    exact kk
end
end Tw
end
section
/-! text L7 -/
set_option maxHeartbeats 4000000
namespace Tw
open PySem PySem.Spec PyProof.Rows L2 LamX NdefX
/-! ### the plain law -/
/-- what each of the two heard -/
theorem stand_alike {u v : List Str} (h : Sim u v) : standS v u = "alike" := by unfold standS; rw [if_pos h.symm]
theorem stand_open {u v : List Str} (h : ¬ Sim u v) (g : ¬ Shut u v) : standS v u = "open" := by
  unfold standS
  rw [if_neg (fun z => h z.symm), if_pos]
  by_cases c : On u v
  · exact .inr c
  · exact .inl (Classical.byContradiction fun d => g ⟨c, d⟩)
theorem stand_shut {u v : List Str} (h : ¬ Sim u v) (g : Shut u v) : standS v u = "shut" := by
  unfold standS
  rw [if_neg (fun z => h z.symm), if_neg]
  rintro (z | z)
  · exact g.2 z
  · exact g.1 z
theorem ne_ao : ("alike" : Str) ≠ "open" := by decide +kernel
theorem ne_so : ("shut" : Str) ≠ "open" := by decide +kernel
theorem ne_sa : ("shut" : Str) ≠ "alike" := by decide +kernel
theorem shut_nsim {u v : List Str} (g : Shut u v) : ¬ Sim u v := fun h => g.1 h.on
/-- alike and shut stay so -/
theorem stand_stays {u v z : List Str} (h : standS v u ≠ "open") : standS (v ++ z) (u ++ z) = standS v u := by
  by_cases c : Sim u v
  · rw [stand_alike c, stand_alike (c.right z)]
  · by_cases g : Shut u v
    · rw [stand_shut c g, stand_shut (shut_nsim (g.right z)) (g.right z)]
    · exact absurd (stand_open c g) h
/-- the later one heard an end of what the earlier one heard -/
theorem drop_split {S : List Str} {nc nb : Nat} (h : nc ≤ nb) : ∃ s, S.drop nc = s ++ S.drop nb := by
  refine ⟨(S.drop nc).take (nb - nc), ?_⟩
  have := (List.take_append_drop (nb - nc) (S.drop nc)).symm
  rw [List.drop_drop] at this
  rw [show nc + (nb - nc) = nb by omega] at this
  exact this
theorem door_words {S : List Str} {nc nb : Nat} (h : nc ≤ nb) (h1 : ¬ Sim (S.drop nb) (S.drop nc)) (h2 : ¬ Shut (S.drop nb) (S.drop nc)) : On (S.drop nb) (S.drop nc) ∧ ¬ ∀ z, z ∈ S.drop nb ↔ z ∈ S.drop nc := by
  obtain ⟨s, e⟩ := drop_split (S := S) h
  rw [e] at h1 h2 ⊢
  have ho : On (S.drop nb) (s ++ S.drop nb) := by
    by_cases c : On (S.drop nb) (s ++ S.drop nb)
    · exact c
    · exact absurd (suffix_back (Classical.byContradiction fun d => h2 ⟨c, d⟩)).symm h1
  exact ⟨ho, fun hz => h1 (suffix_words (fun x hx => (hz x).mpr (List.mem_append_left _ hx)) ho).symm⟩
/-- the row told -/
theorem row_told {u v r : List Str} (h : Sim (u ++ r) v) : Sim (u ++ r) (v ++ r) := by
  have h1 : Sim (u ++ (r ++ r)) (u ++ r) := (Sim.idem r).left u
  have h2 := h.right r
  rw [List.append_assoc] at h2
  exact h1.symm.trans h2
/-! ### the state of the law's own walk -/
structure WS (K : PySem.W.Frag) (Ts : List (Addr × Str)) (H : Hp) (t pl sp bg lb wp ld bs : Addr) (S1 S2 ws : List Str) (bi : List Int) (L : List (Str × Nat)) (N : Nat) : Prop where
  tk : TkS K H t pl sp S1 L N
  bag : Bag H bg lb
  words : LS H wp ws
  said : LS H ld S2
  beg : H bs = some (.lst (bi.map V.int))
  tabs : Tabs Ts H
  wne : ws ≠ []
  n1 : lb ≠ pl
  n2 : bs ≠ sp
  n3 : bs ≠ pl
  n4 : ld ≠ pl
  n5 : ld ≠ bs
  n6 : bs ≠ lb
  n7 : ld ≠ lb
  n8 : wp ≠ ld
section
variable {K : PySem.W.Frag} {Ts : List (Addr × Str)} {H H' : Hp} {t pl sp bg lb wp ld bs : Addr} {S1 S2 ws : List Str} {bi : List Int} {L : List (Str × Nat)} {N : Nat}
theorem Bag.ints (h : Bag H bg lb) (e : H bs = Option.some (HO.lst (bi.map V.int))) : bs ≠ bg := by
  rintro rfl
  obtain ⟨a, b, c, ns, h1, _⟩ := h
  rw [h1] at e
  have e2 := HO.lst.inj (Option.some.inj e)
  have : (V.ref lb) ∈ bi.map V.int := by rw [← e2]; simp
  obtain ⟨z, _, hz⟩ := List.mem_map.mp this
  cases hz
theorem WS.same (W : WS K Ts H t pl sp bg lb wp ld bs S1 S2 ws bi L N) (s : Same H H') : WS K Ts H' t pl sp bg lb wp ld bs S1 S2 ws bi L N :=
  ⟨W.tk.mono s, W.bag.mono s, s _ _ W.words, s _ _ W.said, s _ _ W.beg, W.tabs.ext s, W.wne, W.n1, W.n2, W.n3, W.n4, W.n5, W.n6, W.n7, W.n8⟩
/-- where one list changes that is not the talk's -/
theorem TkS.sl1 {x : Addr} {xs : List V} (h : TkS K H t pl sp S1 L N) (s : SL [x] H H') (hx : H x = some (.lst xs)) (h1 : x ≠ pl) (h2 : x ≠ sp) : TkS K H' t pl sp S1 L N := by
  obtain ⟨dx, sd, cl, past, kvs, D⟩ := h
  have k : ∀ y o, H y = some o → y ≠ x → H' y = some o := fun y o e n => s y o (fun z => n (List.mem_singleton.mp z)) e
  have nl : ∀ y o, H y = some o → (∀ ys, o ≠ .lst ys) → y ≠ x := fun y o e n z => by
    rw [z, hx] at e
    exact n _ (Option.some.inj e).symm
  refine ⟨dx, sd, cl, past, kvs, ⟨k _ _ D.obj (nl _ _ D.obj fun ys e => by cases e), k _ _ D.spk h2.symm, k _ _ D.pst h1.symm, D.few, ⟨k _ _ D.seat.dict (nl _ _ D.seat.dict fun ys e => by cases e), D.seat.len, fun i y n e => ?_⟩, D.ne, D.pr⟩⟩
  obtain ⟨q, dd, e1, e2, e3⟩ := D.seat.at_ i y n e
  exact ⟨q, dd, e1, k _ _ e2 (nl _ _ e2 fun ys e => by cases e), k _ _ e3 (nl _ _ e3 fun ys e => by cases e)⟩
theorem TkS.spb (h : TkS K H t pl sp S1 L N) : LS H sp S1 ∧ sp ≠ pl := by
  obtain ⟨dx, sd, cl, past, kvs, D⟩ := h
  exact ⟨D.spk, D.ne⟩
theorem WS.take (W : WS K Ts H t pl sp bg lb wp ld bs S1 S2 ws bi L N) (s : SL [bg] H H') (hB : Bag H' bg lb) : WS K Ts H' t pl sp bg lb wp ld bs S1 S2 ws bi L N := by
  obtain ⟨a, b, c, ns, g1, _⟩ := id W.bag
  have nb := W.tk.tk.bag W.bag
  exact ⟨W.tk.sl1 s g1 nb.1.2 (fun e => W.bag.words W.tk.spb.1 e.symm), hB, s _ _ (fun e => W.bag.words W.words (List.mem_singleton.mp e)) W.words, s _ _ (fun e => W.bag.words W.said (List.mem_singleton.mp e)) W.said, s _ _ (fun e => W.bag.ints W.beg (List.mem_singleton.mp e)) W.beg,
    Tabs.sl W.tabs s (fun x hx => by rw [List.mem_singleton.mp hx]; exact .inr ⟨_, g1⟩), W.wne, W.n1, W.n2, W.n3, W.n4, W.n5, W.n6, W.n7, W.n8⟩
/-- the talk goes on -/
theorem WS.talk {sp' : Addr} {S1' : List Str} {L' : List (Str × Nat)} {N' : Nat} (W : WS K Ts H t pl sp bg lb wp ld bs S1 S2 ws bi L N) (s : SL [t, pl] H H') (tk' : TkS K H' t pl sp' S1' L' N') (hn : bs ≠ sp') : WS K Ts H' t pl sp' bg lb wp ld bs S1' S2 ws bi L' N' := by
  have kd := W.tk.tk.kind
  have a := W.tk.tk.apart W.words W.wne
  have c := W.tk.tk.bag W.bag
  have nt : ∀ x xs, H x = some (.lst xs) → x ≠ t := fun x xs e z => by
    obtain ⟨C, dx, fs, e2⟩ := kd.1
    rw [z, e2] at e
    cases e
  refine ⟨tk', W.bag.sl s c.1 ⟨c.2, W.n1⟩, s _ _ (by simp [a.1, a.2]) W.words, s _ _ (by simp [nt _ _ W.said, W.n4]) W.said, s _ _ (by simp [nt _ _ W.beg, W.n3]) W.beg, Tabs.sl W.tabs s (fun x hx => ?_), W.wne, W.n1, hn, W.n3, W.n4, W.n5, W.n6, W.n7, W.n8⟩
  rcases List.mem_cons.mp hx with e | hx
  · rw [e]; exact .inl kd.1
  · rw [List.mem_singleton.mp hx]; exact .inr kd.2
/-- the law's own list of what was said goes on -/
theorem WS.app (W : WS K Ts H t pl sp bg lb wp ld bs S1 S2 ws bi L N) (hn : ld ≠ sp) (S2' : List Str) : WS K Ts (upd H ld (.lst (S2'.map V.str))) t pl sp bg lb wp ld bs S1 S2' ws bi L N := by
  have s : SL [ld] H (upd H ld (.lst (S2'.map V.str))) := (SL.refl _ _).set List.mem_cons_self
  refine ⟨W.tk.sl1 s W.said W.n4 hn, W.bag.put ⟨W.bag.words W.said, W.n7⟩, s _ _ (fun e => W.n8 (List.mem_singleton.mp e)) W.words, upd_same, s _ _ (fun e => W.n5 (List.mem_singleton.mp e).symm) W.beg, Tabs.sl W.tabs s (fun x hx => by rw [List.mem_singleton.mp hx]; exact .inr ⟨_, W.said⟩), W.wne, W.n1, W.n2, W.n3, W.n4, W.n5, W.n6, W.n7, W.n8⟩
/-- a beginning more -/
theorem WS.begin (W : WS K Ts H t pl sp bg lb wp ld bs S1 S2 ws bi L N) (hw : wp ≠ bs) (bi' : List Int) : WS K Ts (upd H bs (.lst (bi'.map V.int))) t pl sp bg lb wp ld bs S1 S2 ws bi' L N := by
  have s : SL [bs] H (upd H bs (.lst (bi'.map V.int))) := (SL.refl _ _).set List.mem_cons_self
  exact ⟨W.tk.sl1 s W.beg W.n3 W.n2, W.bag.put ⟨W.bag.ints W.beg, W.n6⟩, s _ _ (fun e => hw (List.mem_singleton.mp e)) W.words, s _ _ (fun e => W.n5 (List.mem_singleton.mp e)) W.said, upd_same, Tabs.sl W.tabs s (fun x hx => by rw [List.mem_singleton.mp hx]; exact .inr ⟨_, W.beg⟩), W.wne, W.n1, W.n2, W.n3, W.n4, W.n5, W.n6, W.n7, W.n8⟩
/-- words and beginnings are apart -/
theorem WS.wb (W : WS K Ts H t pl sp bg lb wp ld bs S1 S2 ws bi L N) : wp ≠ bs := by
  rintro rfl
  have h := W.words
  have h : H wp = some (.lst (ws.map V.str)) := h
  rw [W.beg] at h
  have e := HO.lst.inj (Option.some.inj h)
  have hne := W.wne
  cases ws with
  | nil => exact hne rfl
  | cons x ws =>
    have : (V.str x) ∈ bi.map V.int := by rw [e]; exact List.mem_cons_self
    obtain ⟨z, _, hz⟩ := List.mem_map.mp this
    cases hz
end
end Tw
end
section
/-! text L8 -/
set_option maxHeartbeats 4000000
namespace Tw
open PySem PySem.Spec PyProof.Rows L2 LamX NdefX
section
variable {P : Program} {w : World} {K : PySem.W.Frag} {mg : Str → Option Value} {base : Heap}
abbrev lawX (P : Program) (w : World) (K : PySem.W.Frag) (mg : Str → Option Value) (base : Heap) (cdv : Value) (A : Around) (outer : List Env) (s : Shared) (H : Hp) (E : XK) : Cx := (cxOf CX0 P w K mg base N_law "law" (defScope s_law) (He.ga K "law") cdv A outer s H E).nox
abbrev lawD (Q : VK) : Ends := { nx := fun _ H' => Q .non H', rt := Q }
/-- what the law's walk knows behind the two that came -/
structure LW (K : PySem.W.Frag) (Ts : List (Addr × Str)) (H : Hp) (t pl sp bg lb wp ld bs : Addr) (S ws : List Str) (nc nb N : Nat) : Prop where
  st : WS K Ts H t pl sp bg lb wp ld bs S S ws [(nc : Int), (nb : Int)] (L2s nc nb) N
  o1 : nc ≤ nb
  o2 : nb ≤ S.length
  o3 : S.length ≤ 100
  o4 : N ≤ 100
  o5 : ∀ x ∈ S, x ∈ ws
  o6 : ws.length ≤ 4
  o7 : ∀ x ∈ ws, WordOk x
theorem law_tail3 {Pt : Addr} {cdv : Value} {A : Around} {outer : List Env} {s : Shared} {H : Hp} {E : XK} {Q : VK} (T : TX K mg) (TB : TabB base mg (He.codeOf K kSince) Pt) (hr : Room 25 (A.deeper (envOfC "law" (defScope s_law) s.heap.objs.size (He.ga K "law") cdv))) (kq : ∀ H', Q (.bl true) H') :
    ∃ tr, PSs (lawX P w K mg base cdv A outer s H E) ((defBody s_law).drop 7) tr ∧ ∀ (H7 : Hp) (t pl sp bg lb wp ld bs td : Addr) (S ws : List Str) (nc nb N : Nat) (x0 x6 x9 x10 x11 x12 : Option V), LW K [(Pt, lamName)] H7 t pl sp bg lb wp ld bs S ws nc nb N → DoorAt H7 td (S.drop nb) (S.drop nc) →
      tr (lawD Q) [x0, some (.ref bg), some (.ref wp), some (.ref t), some (.ref ld), some (.ref bs), x6, some (.str (standS (S.drop nc) (S.drop nb))), some (.ref td), x9, x10, x11, x12] H7 := by
  have Gh := ok_Lhealed (P := P) (w := w) T TB
  have Gci := ok_circles (P := P) (w := w) (base := base) T
  refine ⟨_, pss_cons (ps_if (pt_cmpR op_eq (pv 7) pe_str (nomark _)) (pss_one (ps_ret (pc Gh hr (pa_cons (pv 3) (pa_cons (pe_ix ix_tup (pv 8) pe_int (fun _ _ => rfl)) (pa_cons (pv 1) (pa_cons (pv 2) pa_nil))))))) pss_nil)
    (pss_one (ps_ret (pe_cmpR (op_eqD hr.units) (pm0 (pv 3) Gci (hr.mono (by omega))) (pe_ix ix_list (pe_lst (pa_cons (pe_lst (pa_cons (pe_lst (pa_cons pe_str pa_nil)) (pa_cons (pe_lst (pa_cons pe_str pa_nil)) pa_nil))) (pa_cons (pe_lst (pa_cons (pe_lst (pa_cons pe_str (pa_cons pe_str pa_nil))) pa_nil)) pa_nil))) (pe_callTy call_int1 rfl (T.free 50 rfl) bo_int (pa_cons (pe_cmpR op_eq (pv 7) pe_str (nomark _)) pa_nil)) (fun _ _ => rfl)) (nomark _)))), ?_⟩
  intro H7 t pl sp bg lb wp ld bs td S ws nc nb N x0 x6 x9 x10 x11 x12 W dA
  have tk := W.st.tk.tk
  obtain ⟨dx, sp0, sd, cl, past, kvs, D⟩ := id tk
  have few : Few 4 S := ⟨ws, W.o6, W.o5⟩
  by_cases c1 : Sim (S.drop nb) (S.drop nc)
  · rw [stand_alike c1]
    refine ⟨_, rfl, rfl, _, rfl, iteFb (by decide +kernel) ?_⟩
    refine ⟨_, rfl, t, dx, _, rfl, D.obj, rfl, t, pl, S, nc, nb, N, rfl, tk, few, by have := W.o3; omega, fun H8 q s8 cA => ?_⟩
    refine ⟨by show 1 ≤ sizeLine; decide, fun a1 na1 => ⟨by show 1 ≤ sizeLine; decide, fun a2 na2 => ⟨by show 2 ≤ sizeLine; decide, fun a3 na3 => ⟨by show 2 ≤ sizeLine; decide, fun b1 nb1 => ⟨by show 1 ≤ sizeLine; decide, fun b2 nb2 => ⟨by show 2 ≤ sizeLine; decide, fun o no => ?_⟩⟩⟩⟩⟩⟩
    have s9 := ((((((Same.refl H8).new (o := .lst [V.str "b"]) na1).new (o := .lst [V.str "c"]) na2).new (o := .lst [V.ref a1, V.ref a2]) na3).new (o := .lst [V.str "b", V.str "c"]) nb1).new (o := .lst [V.ref b1]) nb2).new (o := .lst [V.ref a3, V.ref b2]) no
    have ha1 := same_new (o := .lst [V.ref a3, V.ref b2]) no _ _ (same_new (o := .lst [V.ref b1]) nb2 _ _ (same_new (o := .lst [V.str "b", V.str "c"]) nb1 _ _ (same_new (o := .lst [V.ref a1, V.ref a2]) na3 _ _ (same_new (o := .lst [V.str "c"]) na2 _ _ (show upd H8 a1 (.lst [V.str "b"]) a1 = some (.lst [V.str "b"]) from upd_same)))))
    have ha2 := same_new (o := .lst [V.ref a3, V.ref b2]) no _ _ (same_new (o := .lst [V.ref b1]) nb2 _ _ (same_new (o := .lst [V.str "b", V.str "c"]) nb1 _ _ (same_new (o := .lst [V.ref a1, V.ref a2]) na3 _ _ (show upd (upd H8 a1 (.lst [V.str "b"])) a2 (.lst [V.str "c"]) a2 = some (.lst [V.str "c"]) from upd_same))))
    have ha3 := same_new (o := .lst [V.ref a3, V.ref b2]) no _ _ (same_new (o := .lst [V.ref b1]) nb2 _ _ (same_new (o := .lst [V.str "b", V.str "c"]) nb1 _ _ (show upd (upd (upd H8 a1 (.lst [V.str "b"])) a2 (.lst [V.str "c"])) a3 (.lst [V.ref a1, V.ref a2]) a3 = some (.lst [V.ref a1, V.ref a2]) from upd_same)))
    have hb1 := same_new (o := .lst [V.ref a3, V.ref b2]) no _ _ (same_new (o := .lst [V.ref b1]) nb2 _ _ (show upd (upd (upd (upd H8 a1 (.lst [V.str "b"])) a2 (.lst [V.str "c"])) a3 (.lst [V.ref a1, V.ref a2])) b1 (.lst [V.str "b", V.str "c"]) b1 = some (.lst [V.str "b", V.str "c"]) from upd_same))
    have hb2 := same_new (o := .lst [V.ref a3, V.ref b2]) no _ _ (show upd (upd (upd (upd (upd H8 a1 (.lst [V.str "b"])) a2 (.lst [V.str "c"])) a3 (.lst [V.ref a1, V.ref a2])) b1 (.lst [V.str "b", V.str "c"])) b2 (.lst [V.ref b1]) b2 = some (.lst [V.ref b1]) from upd_same)
    have ho : upd (upd (upd (upd (upd (upd H8 a1 (.lst [V.str "b"])) a2 (.lst [V.str "c"])) a3 (.lst [V.ref a1, V.ref a2])) b1 (.lst [V.str "b", V.str "c"])) b2 (.lst [V.ref b1])) o (.lst [V.ref a3, V.ref b2]) o = some (.lst [V.ref a3, V.ref b2]) := upd_same
    generalize upd (upd (upd (upd (upd (upd H8 a1 (.lst [V.str "b"])) a2 (.lst [V.str "c"])) a3 (.lst [V.ref a1, V.ref a2])) b1 (.lst [V.str "b", V.str "c"])) b2 (.lst [V.ref b1])) o (.lst [V.ref a3, V.ref b2]) = H9 at s9 ha1 ha2 ha3 hb1 hb2 ho
    rcases cA with ⟨_, l1, hq, hl⟩ | ⟨z, _⟩
    · have hl : H8 l1 = some (.lst [V.str "b", V.str "c"]) := hl
      refine ⟨_, rfl, rfl, .inr ⟨true, by decide +kernel, o, _, 1, _, rfl, rfl, SqL.of ho, rfl, ?_⟩⟩
      exact ⟨.list [.list [.str "b", .str "c"]], .list [.list [.str "b", .str "c"]], .lst (SqL.of (s9 _ _ hq)) (.cons (.lst (SqL.of (s9 _ _ hl)) (.cons (.str _) (.cons (.str _) .nil))) .nil), .lst (SqL.of hb2) (.cons (.lst (SqL.of hb1) (.cons (.str _) (.cons (.str _) .nil))) .nil), by decide +kernel, by decide +kernel, kq H9⟩
    · exact absurd c1 z
  · by_cases c2 : Shut (S.drop nb) (S.drop nc)
    · rw [stand_shut c1 c2]
      refine ⟨_, rfl, rfl, _, rfl, iteFb (by decide +kernel) ?_⟩
      refine ⟨_, rfl, t, dx, _, rfl, D.obj, rfl, t, pl, S, nc, nb, N, rfl, tk, few, by have := W.o3; omega, fun H8 q s8 cA => ?_⟩
      refine ⟨by show 1 ≤ sizeLine; decide, fun a1 na1 => ⟨by show 1 ≤ sizeLine; decide, fun a2 na2 => ⟨by show 2 ≤ sizeLine; decide, fun a3 na3 => ⟨by show 2 ≤ sizeLine; decide, fun b1 nb1 => ⟨by show 1 ≤ sizeLine; decide, fun b2 nb2 => ⟨by show 2 ≤ sizeLine; decide, fun o no => ?_⟩⟩⟩⟩⟩⟩
      have s9 := ((((((Same.refl H8).new (o := .lst [V.str "b"]) na1).new (o := .lst [V.str "c"]) na2).new (o := .lst [V.ref a1, V.ref a2]) na3).new (o := .lst [V.str "b", V.str "c"]) nb1).new (o := .lst [V.ref b1]) nb2).new (o := .lst [V.ref a3, V.ref b2]) no
      have ha1 := same_new (o := .lst [V.ref a3, V.ref b2]) no _ _ (same_new (o := .lst [V.ref b1]) nb2 _ _ (same_new (o := .lst [V.str "b", V.str "c"]) nb1 _ _ (same_new (o := .lst [V.ref a1, V.ref a2]) na3 _ _ (same_new (o := .lst [V.str "c"]) na2 _ _ (show upd H8 a1 (.lst [V.str "b"]) a1 = some (.lst [V.str "b"]) from upd_same)))))
      have ha2 := same_new (o := .lst [V.ref a3, V.ref b2]) no _ _ (same_new (o := .lst [V.ref b1]) nb2 _ _ (same_new (o := .lst [V.str "b", V.str "c"]) nb1 _ _ (same_new (o := .lst [V.ref a1, V.ref a2]) na3 _ _ (show upd (upd H8 a1 (.lst [V.str "b"])) a2 (.lst [V.str "c"]) a2 = some (.lst [V.str "c"]) from upd_same))))
      have ha3 := same_new (o := .lst [V.ref a3, V.ref b2]) no _ _ (same_new (o := .lst [V.ref b1]) nb2 _ _ (same_new (o := .lst [V.str "b", V.str "c"]) nb1 _ _ (show upd (upd (upd H8 a1 (.lst [V.str "b"])) a2 (.lst [V.str "c"])) a3 (.lst [V.ref a1, V.ref a2]) a3 = some (.lst [V.ref a1, V.ref a2]) from upd_same)))
      have hb1 := same_new (o := .lst [V.ref a3, V.ref b2]) no _ _ (same_new (o := .lst [V.ref b1]) nb2 _ _ (show upd (upd (upd (upd H8 a1 (.lst [V.str "b"])) a2 (.lst [V.str "c"])) a3 (.lst [V.ref a1, V.ref a2])) b1 (.lst [V.str "b", V.str "c"]) b1 = some (.lst [V.str "b", V.str "c"]) from upd_same))
      have hb2 := same_new (o := .lst [V.ref a3, V.ref b2]) no _ _ (show upd (upd (upd (upd (upd H8 a1 (.lst [V.str "b"])) a2 (.lst [V.str "c"])) a3 (.lst [V.ref a1, V.ref a2])) b1 (.lst [V.str "b", V.str "c"])) b2 (.lst [V.ref b1]) b2 = some (.lst [V.ref b1]) from upd_same)
      have ho : upd (upd (upd (upd (upd (upd H8 a1 (.lst [V.str "b"])) a2 (.lst [V.str "c"])) a3 (.lst [V.ref a1, V.ref a2])) b1 (.lst [V.str "b", V.str "c"])) b2 (.lst [V.ref b1])) o (.lst [V.ref a3, V.ref b2]) o = some (.lst [V.ref a3, V.ref b2]) := upd_same
      generalize upd (upd (upd (upd (upd (upd H8 a1 (.lst [V.str "b"])) a2 (.lst [V.str "c"])) a3 (.lst [V.ref a1, V.ref a2])) b1 (.lst [V.str "b", V.str "c"])) b2 (.lst [V.ref b1])) o (.lst [V.ref a3, V.ref b2]) = H9 at s9 ha1 ha2 ha3 hb1 hb2 ho
      rcases cA with ⟨z, _⟩ | ⟨_, l1, l2, hq, hl, hm⟩
      · exact absurd z c1
      · have hl : H8 l1 = some (.lst [V.str "b"]) := hl
        have hm : H8 l2 = some (.lst [V.str "c"]) := hm
        refine ⟨_, rfl, rfl, .inr ⟨false, by decide +kernel, o, _, 0, _, rfl, rfl, SqL.of ho, rfl, ?_⟩⟩
        exact ⟨.list [.list [.str "b"], .list [.str "c"]], .list [.list [.str "b"], .list [.str "c"]], .lst (SqL.of (s9 _ _ hq)) (.cons (.lst (SqL.of (s9 _ _ hl)) (.cons (.str _) .nil)) (.cons (.lst (SqL.of (s9 _ _ hm)) (.cons (.str _) .nil)) .nil)), .lst (SqL.of ha3) (.cons (.lst (SqL.of ha1) (.cons (.str _) .nil)) (.cons (.lst (SqL.of ha2) (.cons (.str _) .nil)) .nil)), by decide +kernel, by decide +kernel, kq H9⟩
    · rw [stand_open c1 c2]
      refine ⟨_, rfl, rfl, _, rfl, iteTb (by decide +kernel) ?_⟩
      obtain ⟨p, r, hd, hp, ho, _⟩ := dA.op c1 c2
      obtain ⟨hon, hnw⟩ := door_words W.o1 c1 c2
      have R := ho hon
      have hrl : r.length ≤ 30 := by have := R.len; omega
      have rne : r ≠ [] := fun e => by
        have z := R.sim
        rw [e, List.append_nil] at z
        exact c1 z
      have hs : Sim ((S ++ r).drop nb) ((S ++ r).drop nc) := by
        rw [drop_app W.o2, drop_app (Nat.le_trans W.o1 W.o2)]
        exact row_told R.sim
      refine ⟨_, rfl, _, rfl, td, _, 1, _, rfl, rfl, SqT.of hd, rfl, _, rfl, _, rfl, t, p, bg, wp, pl, lb, S, ws, r, nc, nb, N, rfl, tk, W.st.bag, W.st.n1, hp, W.st.words, W.st.tabs, W.st.wne, W.o6, W.o7, fun x hx => ?_, Nat.le_trans W.o1 W.o2, W.o2, by have := W.o3; omega, W.o4, rne, c1, hs, kq⟩
      rcases List.mem_append.mp hx with hx | hx
      · exact W.o5 x hx
      · exact W.o5 x (List.mem_of_mem_drop (R.mem x hx))
end
end Tw
end
section
/-! text L9 -/
set_option maxHeartbeats 4000000
namespace Tw
open PySem PySem.Spec PyProof.Rows L2 LamX NdefX
theorem door_head {H : Hp} {td : Addr} {u v : List Str} (d : DoorAt H td u v) : ∃ xs, H td = some (.tup (.str (standS v u) :: xs)) := by
  by_cases c1 : Sim u v
  · rw [stand_alike c1]; exact ⟨_, d.al c1⟩
  · by_cases c2 : Shut u v
    · rw [stand_shut c1 c2]
      obtain ⟨h, r, e⟩ := d.sh c1 c2
      exact ⟨_, e⟩
    · rw [stand_open c1 c2]
      obtain ⟨p, r, e, _⟩ := d.op c1 c2
      exact ⟨_, e⟩
theorem LW.same {K : PySem.W.Frag} {Ts : List (Addr × Str)} {H H' : Hp} {t pl sp bg lb wp ld bs : Addr} {S ws : List Str} {nc nb N : Nat} (W : LW K Ts H t pl sp bg lb wp ld bs S ws nc nb N) (s : Same H H') : LW K Ts H' t pl sp bg lb wp ld bs S ws nc nb N :=
  ⟨W.st.same s, W.o1, W.o2, W.o3, W.o4, W.o5, W.o6, W.o7⟩
section
variable {P : Program} {w : World} {K : PySem.W.Frag} {mg : Str → Option Value} {base : Heap}
theorem law_tail2 {Pt : Addr} {cdv : Value} {A : Around} {outer : List Env} {s : Shared} {H : Hp} {E : XK} {Q : VK} (T : TX K mg) (TB : TabB base mg (He.codeOf K kSince) Pt) (hr : Room 25 (A.deeper (envOfC "law" (defScope s_law) s.heap.objs.size (He.ga K "law") cdv))) (kq : ∀ H', Q (.bl true) H') :
    ∃ tr, PSs (lawX P w K mg base cdv A outer s H E) ((defBody s_law).drop 5) tr ∧ ∀ (H7 : Hp) (t pl sp bg lb wp ld bs : Addr) (S ws : List Str) (nc nb N : Nat) (x0 x6 x9 x10 x11 x12 : Option V), LW K [(Pt, lamName)] H7 t pl sp bg lb wp ld bs S ws nc nb N → S.length ≤ 12 → N ≤ 4 →
      tr (lawD Q) [x0, some (.ref bg), some (.ref wp), some (.ref t), some (.ref ld), some (.ref bs), x6, none, none, x9, x10, x11, x12] H7 := by
  have Gt := ok_Ltake (P := P) (w := w) (base := base) T
  have Gsy := ok_say (P := P) (w := w) (base := base) T
  have Gst := ok_Lstand (P := P) (w := w) (base := base) T
  have Gdo := ok_door (P := P) (w := w) (base := base) T
  obtain ⟨t3, hs3, ht3⟩ := law_tail3 (P := P) (w := w) (outer := outer) (H := H) (E := E) T TB hr kq
  refine ⟨_, pss_cons (ps_asg (pe_tup (pa_cons pe_str (pa_cons (pe_tup (pa_cons pe_str pa_nil)) pa_nil))) (pg_tup rfl (pgs_cons (pg_name (i := 7) sc_law.nd rfl (.inl rfl)) (pgs_cons (pg_name (i := 8) sc_law.nd rfl (.inl rfl)) pgs_nil))))
    (pss_cons (ps_for PassesOwn.never rfl (pi_range1 rfl (T.free 59 rfl) (pa_cons (pe_op op_add pe_int (pc Gt (hr.mono (by omega)) (pa_cons (pv 1) (pa_cons pe_int pa_nil)))) pa_nil)) (pg_name (i := 9) sc_law.nd rfl (.inl rfl))
      (pss_cons (ps_set (i := 11) sc_law.nd rfl (.inl rfl) (pe_ix ix_list (pv 2) (pc Gt (hr.mono (by omega)) (pa_cons (pv 1) (pa_cons (plen T (pv 2)) pa_nil))) (fun _ _ => rfl)))
      (pss_cons (ps_expr (pm (pv 3) Gsy (hr.mono (by omega)) (pa_cons (pv 11) pa_nil)))
      (pss_cons (ps_expr (pe_bm PySem.F.plainAttrs_list PySem.F.slot_list_append PySem.F.type_list_append mt_append (pv 4) (pa_cons (pv 11) pa_nil)))
      (pss_cons (ps_set (i := 12) sc_law.nd rfl (.inl rfl) (pv 7))
      (pss_cons (ps_set (i := 7) sc_law.nd rfl (.inl rfl) (pc Gst (hr.mono (by omega)) (pa_cons (pe_slice sl_list (pv 4) (po_some (pe_ix ix_list (pv 5) pe_int (fun _ _ => rfl))) po_none) (pa_cons (pe_slice sl_list (pv 4) (po_some (pe_ix ix_list (pv 5) pe_int (fun _ _ => rfl))) po_none) pa_nil))))
      (pss_cons (ps_set (i := 8) sc_law.nd rfl (.inl rfl) (pm (pv 3) Gdo (hr.mono (by omega)) (pa_cons pe_str (pa_cons pe_str pa_nil))))
      (pss_one (ps_if (pw_or (pt_cmpR op_ne (pe_ix ix_tup (pv 8) pe_int (fun _ _ => rfl)) (pv 7) (nomark _)) (pw_or1 (pw_and (pt_cmpR op_ne (pv 12) pe_str (nomark _)) (pw_and (pt_cmpR op_gt (pv 9) pe_int (nomark _)) (pw_and1 (pt_cmpR op_ne (pv 7) (pv 12) (nomark _))))).pt)).pt pss_never pss_nil)))))))))
    hs3), ?_⟩
  intro H7 t pl sp bg lb wp ld bs S ws nc nb N x0 x6 x9 x10 x11 x12 W l12 n4
  have hnm : Names (L2s nc nb) := (by decide : (["c", "b"] : List Str).Nodup)
  have mc : (("c" : Str), nc) ∈ L2s nc nb := List.mem_cons_self
  have mb : (("b" : Str), nb) ∈ L2s nc nb := List.mem_cons_of_mem _ List.mem_cons_self
  refine ⟨by show 1 ≤ sizeLine; decide, fun q1 nq1 => ⟨by show 2 ≤ sizeLine; decide, fun q2 nq2 => ?_⟩⟩
  have s8 := ((Same.refl H7).new (o := .tup [V.str "alike"]) nq1).new (o := .tup [V.str "alike", V.ref q1]) nq2
  have hq8 : upd (upd H7 q1 (.tup [V.str "alike"])) q2 (.tup [V.str "alike", V.ref q1]) q2 = some (.tup [V.str "alike", V.ref q1]) := upd_same
  generalize upd (upd H7 q1 (.tup [V.str "alike"])) q2 (.tup [V.str "alike", V.ref q1]) = H8 at s8 hq8
  have W8 := W.same s8
  refine ⟨q2, _, rfl, SqT.of hq8, rfl, _, _, rfl, _, _, rfl, rfl, ?_⟩
  refine ⟨_, rfl, bg, lb, 9, rfl, by decide, by decide, W8.st.bag, fun H9 v0 s9 hB9 hv0 => ⟨_, _, rfl, rfl, _, rfl, by omega, by omega, ?_⟩⟩
  have W9 := W8.st.take s9 hB9
  refine for_range (lo := 0) (n := (6 + (v0 : Int)).toNat) (fun i σ H10 => ∃ (sp : Addr) (S : List Str) (N : Nat) (x9 x11 x12 : Option V) (wd : Str) (td : Addr), σ = [x0, some (.ref bg), some (.ref wp), some (.ref t), some (.ref ld), some (.ref bs), x6, some (.str wd), some (.ref td), x9, x10, x11, x12] ∧
      LW K [(Pt, lamName)] H10 t pl sp bg lb wp ld bs S ws nc nb N ∧ S.length ≤ 12 + i ∧ N ≤ 4 + i ∧ i ≤ 14 ∧ (i = 0 ∨ (wd = standS (S.drop nc) (S.drop nb) ∧ DoorAt H10 td (S.drop nb) (S.drop nc))))
    ⟨sp, S, N, x9, x11, x12, "alike", q1, rfl, ⟨W9, W.o1, W.o2, W.o3, W.o4, W.o5, W.o6, W.o7⟩, by omega, by omega, by omega, .inl rfl⟩ ?_ ?_
  · rintro i σ H10 hi ⟨sp, S, N, x9, x11, x12, wd, td, rfl, W, l12, n4, i14, hwd⟩
    refine ⟨_, rfl, _, rfl, _, rfl, wp, _, rfl, .inl (SqL.of W.st.words), bg, lb, _, rfl, by rw [List.length_map]; exact List.length_pos_iff.mpr W.st.wne, by rw [List.length_map]; have := W.o6; omega, W.st.bag, fun H11 v s11 hB11 hv => ?_⟩
    rw [List.length_map] at hv
    have W11 := W.st.take s11 hB11
    have hwv : ws[v] ∈ ws := List.getElem_mem hv
    refine ⟨wp, _, v, _, rfl, rfl, SqL.of W11.words, atI_strs hv, ?_⟩
    generalize ws[v] = x at hwv
    obtain ⟨dx, sp1, sd, cl, past, kvs, D⟩ := id W11.tk.tk
    have hall : ∀ y ∈ S ++ [x], y ∈ ws := fun y hy => (List.mem_append.mp hy).elim (W.o5 y) fun z => by rw [List.mem_singleton.mp z]; exact hwv
    have few : Few 4 (S ++ [x]) := ⟨ws, W.o6, hall⟩
    refine ⟨_, rfl, t, dx, _, rfl, D.obj, rfl, _, rfl, t, pl, S, L2s nc nb, N, x, rfl, W11.tk.tk, W.o7 x hwv, few, by omega, by omega, fun H12 sp' s12 n12 tk12 => ?_⟩
    have W12 := W11.talk s12 tk12 (fun e => by have := W11.beg; rw [e, n12] at this; cases this)
    have hld : ld ≠ sp' := fun e => by have := W11.said; have this : H11 ld = some (.lst (S.map V.str)) := this; rw [e, n12] at this; cases this
    refine ⟨_, rfl, .inl ⟨rfl, _, SqL.of W12.said⟩, _, rfl, ld, _, _, rfl, rfl, W12.said, small_line' (by rw [List.length_map]; omega), ?_⟩
    have W13 : WS K [(Pt, lamName)] (upd H12 ld (.lst (S.map V.str ++ [V.str x]))) t pl sp' bg lb wp ld bs (S ++ [x]) (S ++ [x]) ws [(nc : Int), (nb : Int)] (L2s nc nb) (N + 1) := by
      have := W12.app hld (S ++ [x])
      rw [List.map_append] at this
      exact this
    generalize upd H12 ld (.lst (S.map V.str ++ [V.str x])) = H13 at W13
    have WL : LW K [(Pt, lamName)] H13 t pl sp' bg lb wp ld bs (S ++ [x]) ws nc nb (N + 1) := ⟨W13, W.o1, by rw [List.length_append]; have := W.o2; omega, by rw [List.length_append, List.length_singleton]; omega, by omega, hall, W.o6, W.o7⟩
    have hstay : i ≠ 0 → wd ≠ "open" → standS ((S ++ [x]).drop nc) ((S ++ [x]).drop nb) = wd := fun h0 hw => by
      obtain ⟨e, _⟩ := hwd.resolve_left h0
      rw [drop_app W.o2, drop_app (Nat.le_trans W.o1 W.o2), e]
      rw [e] at hw
      exact stand_stays hw
    have hlen : (S ++ [x]).length ≤ 12 + (i + 1) := by rw [List.length_append, List.length_singleton]; omega
    clear W W11 W12 W13 D hwd
    generalize S ++ [x] = S' at WL hstay hlen hall few
    refine ⟨_, rfl, ?_⟩
    refine ⟨_, rfl, _, rfl, bs, _, 0, _, rfl, rfl, SqL.of WL.st.beg, rfl, _, rfl, ld, _, rfl, SqL.of WL.st.said, fun p1 np1 => ?_⟩
    rw [cut_drop]
    have s14 := same_new (o := .lst ((S'.drop nc).map V.str)) np1
    have h14 : LS (upd H13 p1 (.lst ((S'.drop nc).map V.str))) p1 (S'.drop nc) := upd_same
    generalize upd H13 p1 (.lst ((S'.drop nc).map V.str)) = H14 at s14 h14
    have W14 := WL.same s14
    refine ⟨_, rfl, _, rfl, bs, _, 1, _, rfl, rfl, SqL.of W14.st.beg, rfl, _, rfl, ld, _, rfl, SqL.of W14.st.said, fun p2 np2 => ?_⟩
    rw [cut_drop]
    have s15 := same_new (o := .lst ((S'.drop nb).map V.str)) np2
    have h15 : LS (upd H14 p2 (.lst ((S'.drop nb).map V.str))) p2 (S'.drop nb) := upd_same
    have h15' : LS (upd H14 p2 (.lst ((S'.drop nb).map V.str))) p1 (S'.drop nc) := s15 _ _ h14
    generalize upd H14 p2 (.lst ((S'.drop nb).map V.str)) = H15 at s15 h15 h15'
    have W15 := W14.same s15
    have lS := WL.o3
    refine ⟨p1, p2, S'.drop nc, S'.drop nb, rfl, h15', h15, ⟨by rw [List.length_drop]; omega, by rw [List.length_drop]; omega, few.sub fun y hy => (List.mem_append.mp hy).elim List.mem_of_mem_drop List.mem_of_mem_drop⟩, fun H16 s16 => ?_⟩
    have W16 := W15.same s16
    obtain ⟨dx, sp1, sd, cl, past, kvs, D⟩ := id W16.st.tk.tk
    refine ⟨_, rfl, t, dx, _, rfl, D.obj, rfl, t, pl, S', L2s nc nb, N + 1, "b", nb, "c", nc, rfl, W16.st.tk.tk, hnm, mb, mc, word_b, word_c, by omega, few, fun y hy => WL.o7 y (hall y hy), fun h1 h2 => (door_words WL.o1 h1 h2).2, fun H17 td' s17 dA => ?_⟩
    have W17 := W16.same s17
    obtain ⟨xs, hd⟩ := door_head dA
    have done : ∃ (sp : Addr) (S : List Str) (N_1 : Nat) (x9' x11' x12' : Option V) (wd' : Str) (td : Addr), [x0, some (.ref bg), some (.ref wp), some (.ref t), some (.ref ld), some (.ref bs), x6, some (.str (standS (S'.drop nc) (S'.drop nb))), some (.ref td'), some (.int (0 + (i : Int))), x10, some (.str x), some (.str wd)] = [x0, some (.ref bg), some (.ref wp), some (.ref t), some (.ref ld), some (.ref bs), x6, some (.str wd'), some (.ref td), x9', x10, x11', x12'] ∧
      LW K [(Pt, lamName)] H17 t pl sp bg lb wp ld bs S ws nc nb N_1 ∧ S.length ≤ 12 + (i + 1) ∧ N_1 ≤ 4 + (i + 1) ∧ i + 1 ≤ 14 ∧ (i + 1 = 0 ∨ (wd' = standS (S.drop nc) (S.drop nb) ∧ DoorAt H17 td (S.drop nb) (S.drop nc))) :=
      ⟨sp', S', N + 1, _, _, _, _, td', rfl, W17, hlen, by omega, by omega, .inr ⟨rfl, dA⟩⟩
    refine ⟨_, rfl, td', _, 0, _, rfl, rfl, SqT.of hd, L2.atI_nat (j := 0) rfl, _, rfl, rfl, _, rfl, iteFb (by rw [decide_eq_true rfl]; rfl) ?_⟩
    refine ⟨_, rfl, rfl, _, rfl, ?_⟩
    by_cases hw : wd = "open"
    · exact iteFb (by rw [hw]; decide +kernel) (iteFb rfl done)
    · refine iteTb (by rw [decide_eq_false (fun e => hw (V.str.inj e))]; rfl) ?_
      refine ⟨_, rfl, _, _, rfl, rfl, _, rfl, ?_⟩
      by_cases h0 : i = 0
      · exact iteFb (decide_eq_false (by omega)) (iteFb rfl done)
      · refine iteTb (decide_eq_true (by omega)) ?_
        refine ⟨_, rfl, _, rfl, rfl, _, rfl, iteFb (by rw [hstay h0 hw, decide_eq_true rfl]; rfl) done⟩
  · rintro σ H10 ⟨sp, S, N, x9, x11, x12, wd, td, rfl, W, l12, n4, i14, hwd⟩
    rcases hwd with h0 | ⟨rfl, dA⟩
    · omega
    · exact ht3 H10 t pl sp bg lb wp ld bs td S ws nc nb N _ _ _ _ _ _ W dA
end
end Tw
end
section
/-! text L10 -/
set_option maxHeartbeats 4000000
namespace Tw
open PySem PySem.Spec PyProof.Rows L2 LamX NdefX
theorem upd_free {H : Hp} {x y : Addr} {o : HO} (h : upd H x o y = none) : H y = none ∧ y ≠ x := by
  by_cases e : y = x
  · subst e; rw [upd_same] at h; cases h
  · rw [upd_ne e] at h; exact ⟨h, e⟩
section
variable {K : PySem.W.Frag} {Ts : List (Addr × Str)} {H : Hp} {t pl sp bg lb wp ld bs : Addr} {S1 S2 ws : List Str} {bi : List Int} {L : List (Str × Nat)} {N : Nat}
/-- the law's own list of what was said is a new one -/
theorem WS.newsaid (W : WS K Ts H t pl sp bg lb wp ld bs S1 S2 ws bi L N) {ld' : Addr} (n : H ld' = none) (S2' : List Str) : WS K Ts (upd H ld' (.lst (S2'.map V.str))) t pl sp bg lb wp ld' bs S1 S2' ws bi L N := by
  have s := same_new (o := .lst (S2'.map V.str)) n
  obtain ⟨xs, hpl⟩ := W.tk.tk.kind.2
  refine ⟨W.tk.mono s, W.bag.mono s, s _ _ W.words, upd_same, s _ _ W.beg, W.tabs.ext s, W.wne, W.n1, W.n2, W.n3, fun e => ?_, fun e => ?_, W.n6, (W.bag.new n).2, fun e => ?_⟩
  · rw [e, hpl] at n; cases n
  · rw [e, W.beg] at n; cases n
  · have := W.words
    have this : H wp = some (.lst (ws.map V.str)) := this
    rw [e, n] at this; cases this
end
section
variable {P : Program} {w : World} {K : PySem.W.Frag} {mg : Str → Option Value} {base : Heap}
def spLaw (K : PySem.W.Frag) (Ts : List (Addr × Str)) : Sp := fun vs H Q _ => ∃ (p : Addr) (ns : List Int), vs = [.ref p] ∧ SqL K H p (ns.map V.int) ∧ ns.length ≤ 1000 ∧ Tabs Ts H ∧ ∀ H', Q (.bl true) H'
theorem ok_law {Pt : Addr} {fd : FuncData} (T : TX K mg) (TB : TabB base mg (He.codeOf K kSince) Pt) (F : FunD K "law" "law" (defArgs s_law) (defBody s_law) (defScope s_law) [] [] (He.ga K "law") fd) : FnOk P w K mg base CX0 26 (He.ga K "law") fd ["_law_script"] (spLaw K [(Pt, lamName)]) := by
  have Gbg := ok_Lbag (P := P) (w := w) (base := base) T
  have Gt := ok_Ltake (P := P) (w := w) (base := base) T
  have Gto := ok_Ltongue (P := P) (w := w) (base := base) T
  have Gsp := ok_Lspeech (P := P) (w := w) (base := base) T
  have Gtk := ok_TkI (P := P) (w := w) (base := base) T
  have Gte := ok_tell (P := P) (w := w) (base := base) T
  have Gco := ok_come (P := P) (w := w) (base := base) T
  refine FunD.ok F sc_law (fun vs H Q E h => ?_) (fun cdv A outer s H vs Q E hr h => ?_)
  · obtain ⟨p, ns, rfl, _⟩ := h; rfl
  obtain ⟨p, ns, rfl, hp, hn, hT, kq⟩ := h
  suffices hh : ∃ tr, PSs (lawX P w K mg base cdv A outer s H E) (defBody s_law) tr ∧ tr (lawD Q) (start N_law [.ref p]) H by
    obtain ⟨t1, a1, a2⟩ := hh
    exact ⟨t1, a1.nox, a2⟩
  obtain ⟨t2, hs2, ht2⟩ := law_tail2 (P := P) (w := w) (outer := outer) (H := H) (E := E) T TB hr kq
  refine ⟨_, pss_cons (ps_set (i := 1) sc_law.nd rfl (.inl rfl) (pc Gbg (hr.mono (by omega)) (pa_cons (pv 0) pa_nil)))
    (pss_cons (ps_set (i := 2) sc_law.nd rfl (.inl rfl) (pc Gto (hr.mono (by omega)) (pa_cons (pv 1) (pa_cons (pe_op op_add pe_int (pc Gt (hr.mono (by omega)) (pa_cons (pv 1) (pa_cons pe_int pa_nil)))) pa_nil))))
    (pss_cons (ps_set (i := 3) sc_law.nd rfl (.inl rfl) (pk0 Gtk (hr.mono (by omega))))
    (pss_cons (ps_par (i := 4) (j := 5) rfl sc_law.nd rfl rfl (by decide) rfl rfl (pa_cons (pe_lst pa_nil) (pa_cons (pe_lst pa_nil) pa_nil)) rfl)
    (pss_cons (ps_for PassesOwn.never rfl (pi_list (pe_lst (pa_cons pe_str (pa_cons pe_str pa_nil)))) (pg_name (i := 6) sc_law.nd rfl (.inl rfl))
      (pss_cons (ps_set (i := 10) sc_law.nd rfl (.inl rfl) (pc Gsp (hr.mono (by omega)) (pa_cons (pv 1) (pa_cons (pe_slice sl_list (pv 2) po_none (po_some (pe_op op_add pe_int (pc Gt (hr.mono (by omega)) (pa_cons (pv 1) (pa_cons (plen T (pv 2)) pa_nil)))))) (pa_cons pe_int pa_nil)))))
      (pss_cons (ps_expr (pm (pv 3) Gte (hr.mono (by omega)) (pa_cons (pe_callTy call_list_of rfl (T.free 54 rfl) bo_list (pa_cons (pv 10) pa_nil)) pa_nil)))
      (pss_cons (ps_set (i := 4) sc_law.nd rfl (.inl rfl) (pe_op op_cat (pv 4) (pv 10)))
      (pss_cons (ps_expr (pmD (pv 3) Gco (hr.mono (by omega)) (pa_cons (pv 6) pa_nil)))
      (pss_one (ps_expr (pe_bm PySem.F.plainAttrs_list PySem.F.slot_list_append PySem.F.type_list_append mt_append (pv 5) (pa_cons (plen T (pv 4)) pa_nil)))))))))
    hs2)))), ?_⟩
  refine ⟨_, rfl, p, ns, rfl, hp, hn, fun H1 bg lb s1 hB1 => ?_⟩
  have hT1 := hT.ext s1
  refine ⟨_, rfl, _, rfl, bg, lb, 4, rfl, by decide, by decide, hB1, fun H2 v2 s2 hB2 hv2 => ⟨_, _, rfl, rfl, bg, lb, 1 + v2, ?_, by omega, by omega, hB2, fun H3 wp ws s3 hB3 nwp hW3 lws wok => ?_⟩⟩
  · show [V.ref bg, V.int (1 + (v2 : Int))] = [V.ref bg, V.int ((1 + v2 : Nat) : Int)]
    rw [show ((1 + v2 : Nat) : Int) = 1 + (v2 : Int) by omega]
  have bgk : ∀ {H : Hp}, Bag H bg lb → ∀ x ∈ [bg], (∃ C dx fs, H x = some (.ins C dx fs)) ∨ ∃ xs, H x = some (.lst xs) := fun {H} hB x hx => by
    obtain ⟨a, b, c, ns, g1, _⟩ := hB
    rw [List.mem_singleton.mp hx]
    exact .inr ⟨_, g1⟩
  have hT3 : Tabs [(Pt, lamName)] H3 := Tabs.sl hT1 (s2.trans s3) (bgk hB1)
  have wne : ws ≠ [] := fun e => by rw [e] at lws; exact absurd lws (by show 0 ≠ _; omega)
  refine fun t dx nt ndx hne => ⟨t, _, dx, rfl, upd_same, rfl, fun H4 pl sx npt npl tk4 => ⟨rfl, ?_⟩⟩
  have s4 := made_same nt ndx sx
  have npl3 : H3 pl = none := (upd_free (upd_free npl).1).1
  refine ⟨by show 0 ≤ sizeLine; decide, fun ld nld => ⟨by show 0 ≤ sizeLine; decide, fun bs nbs => ⟨_, _, rfl, ?_⟩⟩⟩
  obtain ⟨dx4, sp, sd4, cl4, past4, kvs4, D4⟩ := tk4
  have tkS4 : TkS K H4 t pl sp [] [] 0 := ⟨dx4, sd4, cl4, past4, kvs4, D4⟩
  have hB4 := hB3.mono s4
  have s5 := ((Same.refl H4).new (o := .lst []) nld).new (o := .lst []) nbs
  have hl5 : LS (upd (upd H4 ld (.lst [])) bs (.lst [])) ld [] := same_new (o := .lst []) nbs _ _ upd_same
  have hb5 : upd (upd H4 ld (.lst [])) bs (.lst []) bs = some (.lst (([] : List Int).map V.int)) := upd_same
  obtain ⟨nbs4, nbl⟩ := upd_free nbs
  have W5 : WS K [(Pt, lamName)] (upd (upd H4 ld (.lst [])) bs (.lst [])) t pl sp bg lb wp ld bs [] [] ws [] [] 0 := by
    refine ⟨tkS4.mono s5, hB4.mono s5, s5 _ _ (s4 _ _ hW3), hl5, hb5, (hT3.ext s4).ext s5, wne, fun e => ?_, fun e => ?_, fun e => ?_, fun e => ?_, nbl.symm, (hB4.new nbs4).2, (hB4.new nld).2, fun e => ?_⟩
    · obtain ⟨a, b, c, ns', g1, g2, _⟩ := hB3
      rw [e, npl3] at g2; cases g2
    · have := D4.spk
      have this : H4 sp = some (.lst (([] : List Str).map V.str)) := this
      rw [← e, nbs4] at this; cases this
    · have := D4.pst
      rw [← e, nbs4] at this; cases this
    · have := D4.pst
      rw [← e, nld] at this; cases this
    · have this : H4 wp = some (.lst (ws.map V.str)) := s4 _ _ hW3
      rw [e, nld] at this; cases this
  generalize upd (upd H4 ld (.lst [])) bs (.lst []) = H5 at W5
  refine ⟨by show 2 ≤ sizeLine; decide, fun nl nnl => ?_⟩
  have s6 := same_new (o := .lst [V.str "c", V.str "b"]) nnl
  have hn6 : LS (upd H5 nl (.lst [V.str "c", V.str "b"])) nl ["c", "b"] := upd_same
  generalize upd H5 nl (.lst [V.str "c", V.str "b"]) = H6 at s6 hn6
  have W6 := W5.same s6
  clear W5 hl5 hb5 s5
  refine ⟨nl, rfl, ⟨_, SqL.of hn6⟩, for_list (K := K) (a := nl) (xs := (["c", "b"] : List Str).map V.str) (fun i σ H7 => ∃ (sp ld : Addr) (S : List Str) (bi : List Int) (L : List (Str × Nat)) (N : Nat) (x6 x10 : Option V), σ = [some (.ref p), some (.ref bg), some (.ref wp), some (.ref t), some (.ref ld), some (.ref bs), x6, none, none, none, x10, none, none] ∧
      WS K [(Pt, lamName)] H7 t pl sp bg lb wp ld bs S S ws bi L N ∧ LS H7 nl ["c", "b"] ∧ S.length ≤ 6 * i ∧ N ≤ 2 * i ∧ i ≤ 2 ∧ (∀ x ∈ S, x ∈ ws) ∧ L.map Prod.fst = (["c", "b"] : List Str).take i ∧ bi = L.map (fun z => (z.2 : Int)) ∧ (∀ z ∈ L, z.2 ≤ S.length) ∧ L.Pairwise (fun a b => a.2 ≤ b.2))
    ⟨sp, ld, [], [], [], 0, none, none, rfl, W6, hn6, Nat.le_refl _, Nat.le_refl _, by decide, fun x hx => absurd hx List.not_mem_nil, rfl, rfl, fun z hz => absurd hz List.not_mem_nil, List.Pairwise.nil⟩ (fun i σ H7 _ ⟨_, _, _, _, _, _, _, _, _, _, h, _⟩ => SqL.of h) ?_ ?_⟩
  · rintro i y σ H7 hy ⟨sp, ld, S, bi, L, N, x6, x10, rfl, W, hnl, lS, lN, i2, wS, hL, hbi, hLS, hpw⟩
    obtain ⟨x, hx, rfl⟩ := map_at hy
    have hi := (List.getElem?_eq_some_iff.mp hx).1
    have hi : i < 2 := hi
    have xok : WordOk x := by
      have := List.mem_of_getElem? hx
      rcases List.mem_cons.mp this with e | e
      · rw [e]; exact word_c
      · rw [List.mem_singleton.mp e]; exact word_b
    have xnew : x ∉ L.map Prod.fst := by
      rw [hL]
      match i, hi, hx with
      | 0, _, hx => exact List.not_mem_nil
      | 1, _, hx =>
        cases hx
        show ("b" : Str) ∉ [("c" : Str)]
        decide +kernel
    have lL : L.length = i := by
      have := congrArg List.length hL
      rw [List.length_map, List.length_take] at this
      rw [this]
      exact Nat.min_eq_left (Nat.le_of_lt hi)
    have wpos : 0 < (ws.map V.str).length := by rw [List.length_map]; exact List.length_pos_iff.mpr wne
    refine ⟨_, rfl, _, rfl, _, rfl, _, rfl, wp, _, rfl, .inl (SqL.of W.words), bg, lb, _, rfl, wpos, by rw [List.length_map]; omega, W.bag, fun H8 v s8 hB8 hv => ⟨_, _, rfl, rfl, _, rfl, wp, _, rfl, SqL.of (W.take s8 hB8).words, fun q nq => ?_⟩⟩
    rw [List.length_map] at hv
    have W8 := W.take s8 hB8
    have hn8 : LS H8 nl ["c", "b"] := s8 _ _ (fun e => W.bag.words hnl (List.mem_singleton.mp e)) hnl
    have ec : cutV (ws.map V.str) none (some (1 + (v : Int))) = (ws.take (1 + v)).map V.str := by
      rw [show (1 + (v : Int)) = ((1 + v : Nat) : Int) by omega, cut_take]
    have s9 := same_new (o := .lst (cutV (ws.map V.str) none (some (1 + (v : Int))))) nq
    have hq9 : LS (upd H8 q (.lst (cutV (ws.map V.str) none (some (1 + (v : Int)))))) q (ws.take (1 + v)) := by
      show upd _ _ _ _ = _
      rw [upd_same, ec]
    have W9 := W8.same s9
    refine ⟨bg, lb, q, ws.take (1 + v), 6, rfl, hq9, fun e => ?_, by rw [List.length_take]; omega, Nat.le_refl _, W9.bag, fun H10 up us s10 hB10 nup hus lus wus => ?_⟩
    · have := congrArg List.length e
      rw [List.length_take] at this
      have z : ([] : List Str).length = 0 := rfl
      rw [z] at this
      omega
    have hn9 := s9 _ _ hn8
    generalize upd H8 q (.lst (cutV (ws.map V.str) none (some (1 + (v : Int))))) = H9 at s9 hq9 W9 s10 nup hn9
    have W10 := W9.take s10 hB10
    have hn10 : LS H10 nl ["c", "b"] := s10 _ _ (fun e => W9.bag.words hn9 (List.mem_singleton.mp e)) hn9
    have wus' : ∀ y ∈ us, y ∈ ws := fun y hy => List.mem_of_mem_take (wus y hy)
    obtain ⟨xs9, hpl9⟩ := W9.tk.tk.kind.2
    have upl : up ≠ pl := fun e => by rw [e, hpl9] at nup; cases nup
    obtain ⟨dx10, sp10, sd10, cl10, past10, kvs10, D10⟩ := id W10.tk.tk
    refine ⟨_, rfl, t, dx10, _, rfl, D10.obj, rfl, _, rfl, up, _, rfl, .inl (SqL.of hus), fun l nl2 => ?_⟩
    have s11 := same_new (o := .lst (us.map V.str)) nl2
    have hl11 : LS (upd H10 l (.lst (us.map V.str))) l us := upd_same
    have W11 := W10.same s11
    have hn11 := s11 _ _ hn10
    have hus11 := s11 _ _ hus
    generalize upd H10 l (.lst (us.map V.str)) = H11 at s11 hl11 W11 hn11 hus11
    have hall : ∀ y ∈ S ++ us, y ∈ ws := fun y hy => (List.mem_append.mp hy).elim (wS y) (wus' y)
    refine ⟨t, pl, S, L, N, l, us, rfl, W11.tk.tk, hl11, ⟨by omega, fun y hy => wok y (wus' y hy), ⟨ws, by omega, wus'⟩⟩, ⟨ws, by omega, hall⟩, by omega, by omega, fun H12 sp' s12 n12 tk12 => ?_⟩
    have W12 := W11.talk s12 tk12 (fun e => by have := W11.beg; rw [e, n12] at this; cases this)
    have an := W11.tk.tk.apart hn11 (by simp)
    have hn12 : LS H12 nl ["c", "b"] := s12 _ _ (by simp [an.1, an.2]) hn11
    have upt : up ≠ t := fun e => by
      obtain ⟨C, dxx, fss, e2⟩ := W10.tk.tk.kind.1
      have hus : H10 up = some (.lst (us.map V.str)) := hus
      rw [e, e2] at hus; cases hus
    have hus12 : LS H12 up us := s12 _ _ (by simp [upt, upl]) hus11
    refine ⟨_, rfl, _, rfl, ld, up, _, _, rfl, rfl, W12.said, hus12, small_line (by rw [List.length_map, List.length_map]; omega), fun ld' nld' => ?_⟩
    have W13 : WS K [(Pt, lamName)] (upd H12 ld' (.lst (S.map V.str ++ us.map V.str))) t pl sp' bg lb wp ld' bs (S ++ us) (S ++ us) ws bi L (N + 1) := by
      have := W12.newsaid nld' (S ++ us)
      rw [List.map_append] at this
      exact this
    have hn13 := same_new (o := .lst (S.map V.str ++ us.map V.str)) nld' _ _ hn12
    generalize upd H12 ld' (.lst (S.map V.str ++ us.map V.str)) = H13 at W13 hn13
    obtain ⟨dx13, sp13, sd13, cl13, past13, kvs13, D13⟩ := id W13.tk.tk
    have lapp : (S ++ us).length = S.length + us.length := List.length_append
    refine ⟨_, rfl, t, dx13, _, rfl, D13.obj, rfl, _, rfl, t, pl, sp', S ++ us, L, N + 1, x, rfl, W13.tk, xok, xnew, by omega, by omega, by omega, fun H14 s14 tk14 => ?_⟩
    have W14 := W13.talk s14 tk14 W13.n2
    have an13 := W13.tk.tk.apart hn13 (by simp)
    have hn14 : LS H14 nl ["c", "b"] := s14 _ _ (by simp [an13.1, an13.2]) hn13
    refine ⟨_, rfl, .inl ⟨rfl, _, SqL.of W14.beg⟩, _, rfl, ld', _, rfl, .inl (SqL.of W14.said), bs, _, _, rfl, rfl, W14.beg, small_line' (by rw [hbi, List.length_map, List.length_map]; omega), ?_⟩
    have W15 := W14.begin W14.wb (bi ++ [((S ++ us).length : Int)])
    have ebi : (bi ++ [((S ++ us).length : Int)]).map V.int = bi.map V.int ++ [V.int (((S ++ us).map V.str).length : Nat)] := by
      rw [List.map_append, List.length_map]; rfl
    rw [ebi] at W15
    have bnl : nl ≠ bs := fun e => by
      have hn14 : H14 nl = some (.lst ((["c", "b"] : List Str).map V.str)) := hn14
      rw [e, W14.beg] at hn14
      have e2 := HO.lst.inj (Option.some.inj hn14)
      have : (V.str "c") ∈ bi.map V.int := by rw [e2]; exact List.mem_cons_self
      obtain ⟨z, _, hz⟩ := List.mem_map.mp this
      cases hz
    refine ⟨sp', ld', S ++ us, _, L ++ [(x, (S ++ us).length)], N + 1 + 1, _, _, rfl, W15, ?_, by omega, by omega, by omega, hall, ?_, ?_, fun z hz => ?_, ?_⟩
    · show upd _ _ _ _ = _
      rw [upd_ne bnl]; exact hn14
    · rw [List.map_append, hL, take_succ hx]; rfl
    · rw [List.map_append, ← hbi]; rfl
    · rcases List.mem_append.mp hz with hz | hz
      · have := hLS z hz; omega
      · rw [List.mem_singleton.mp hz]; exact Nat.le_refl _
    · refine List.pairwise_append.mpr ⟨hpw, List.pairwise_singleton _ _, fun a ha b hb => ?_⟩
      rw [List.mem_singleton.mp hb]
      have := hLS a ha
      show a.2 ≤ (S ++ us).length
      omega
  · rintro σ H7 ⟨sp, ld, S, bi, L, N, x6, x10, rfl, W, hnl, lS, lN, i2, wS, hL, hbi, hLS, hpw⟩
    have hL : L.map Prod.fst = (["c", "b"] : List Str) := hL
    obtain ⟨⟨a, nc⟩, ⟨b, nb⟩, rfl⟩ := len_two (show L.length = 2 by simpa using congrArg List.length hL)
    have hL : [a, b] = (["c", "b"] : List Str) := hL
    cases hL
    subst hbi
    exact ht2 H7 t pl sp bg lb wp ld bs S ws nc nb N _ _ _ _ _ _ ⟨W, (List.pairwise_cons.mp hpw).1 ("b", nb) List.mem_cons_self, hLS ("b", nb) (List.mem_cons_of_mem _ List.mem_cons_self), Nat.le_trans lS (by decide), Nat.le_trans lN (by decide), wS, by omega, wok⟩ lS lN
end
end Tw
end
section
/-! text H1 -/
set_option maxHeartbeats 0
namespace Tw
open PySem PySem.Spec PyProof.Rows L2 LamX
theorem law_at {w : World} {mg : Str → Option Value} {f : Addr} {h : Heap} {K : PySem.W.Frag} (KX : K.In h) (c : He.SaysX fa fn [] tf deafB w h K) (G : h.Ns mainGlobals mg) (hf : mg ("law" : Str) = some (.ref f)) :
    LawAtS PySem.Challenge.rw_twicesaid_k02_whole_door_by_growing_talk w K CX0 26 63 "_law_script" mg f h := by
  have T : TX K mg := ⟨⟨h, KX, G⟩, c.t.d, c.more⟩
  obtain ⟨fd, F⟩ := c.t.d.def_ 44 (d := d_law) rfl
  have e := hf.symm.trans (T.glo 44 rfl)
  cases e
  have b := FunD.bindsA (ps := ["_law_script"]) F fun _ _ _ _ _ _ us hl => match us, hl with | [_], _ => rfl
  have hm : kSince ∈ tf := List.mem_cons_self
  refine ⟨fd, [He.cT K kSince], spLaw K [((He.cT K kSince).2, lamName)], fun p hp => ?_, fun p hp => ?_, fun p hp => ?_, fun s u => b s [u] rfl, fun H a ns hl _ hH hS => ?_, fun base KB GB TB => ?_⟩
  · rw [List.mem_singleton.mp hp]; exact c.empty _ hm
  · rw [List.mem_singleton.mp hp]; exact c.out _ hm
  · rw [List.mem_singleton.mp hp]; exact PySem.W.codeHd_of_K KX (c.hd _ hm)
  · exact ⟨a, ns, rfl, hS, by omega, fun p hp => by rw [List.mem_singleton.mp hp]; exact TabS.nil (hH _ List.mem_cons_self), fun _ => rfl⟩
  · exact ok_law (P := (PySem.Challenge.rw_twicesaid_k02_whole_door_by_growing_talk).prog) (w := w) T (TB _ List.mem_cons_self) F
end Tw
end
/-! text H2 -/
set_option maxHeartbeats 0
open PySem PySem.W PySem.Calls PyProof.Rows
theorem PySem.Challenge.cw_twicesaid_k02_whole_door_by_growing_talk_holds : PySem.Challenge.rw_twicesaid_k02_whole_door_by_growing_talk.Holds := by
  w_on; o_law
  refine HandSHeadRun.head_any (r := OpenLaw.row PySem.Challenge.rw_twicesaid_k02_whole_door_by_growing_talk) (q := view (OpenLaw.row PySem.Challenge.rw_twicesaid_k02_whole_door_by_growing_talk).prog [81]) (H := Tw.hk) (ob := Tw.ob) (M := 7000) (loose := Tw.looseN) (d := HandSHeadRun.topDef (OpenLaw.row PySem.Challenge.rw_twicesaid_k02_whole_door_by_growing_talk).prog 81) (kwd := []) Tw.ob_eq
    (by kernel_rfl) (fun s => by kernel_rfl) Tw.run (by kernel_rfl) (by kernel_rfl) (by kernel_rfl) (by rfl) (by first | assumption | decide +kernel) (by decide +kernel) ⟨rfl, rfl, rfl, rfl, rfl, by decide +kernel⟩ ?hw ?hc
  case hw => w_witness2
  case hc =>
    refine LamX.walk_ofTsE (l := PySem.Challenge.rw_twicesaid_k02_whole_door_by_growing_talk) (n := 63) (k := 26) (x := "_law_script") (CX := fun _ => L2.CX0) rfl (by decide) (by kernel_rfl) ⟨rfl, by decide, by decide⟩ ?F (fun _ _ _ _ _ z => z)
    intro w mg fa h Y G hmg0
    obtain ⟨K, KX, c⟩ := Y
    have hmg : mg ("law" : PySem.Str) = some (.ref fa) := by
      have e : (HandSHeadRun.topDef (OpenLaw.row PySem.Challenge.rw_twicesaid_k02_whole_door_by_growing_talk).prog 81).name = ("law" : PySem.Str) := by kernel_rfl
      rw [← e]
      exact hmg0
    exact ⟨K, KX, Tw.law_at KX c G hmg⟩
