import PyProof.Rows.All
import Wide.All
import OpenK.AllK
import Wide.FinOn
import PyProof.NeKinds
import HandS.ForMost
import HandS.Wide
import HandS.ClsMeth
import HandS.IsInst
import PySem.Challenge.RW_formferry_k05_whole_fits_is_the_meaning
set_option Elab.async false
set_option linter.all false
set_option maxRecDepth 100000
set_option maxHeartbeats 4000000
section
set_option autoImplicit false
namespace FF

inductive Pat (α : Type) where
  | none : Pat α
  | one (x : α) : Pat α
  | row (ps : List (Pat α)) : Pat α
  | any (ps : List (Pat α)) : Pat α
  | maybe (p : Pat α) : Pat α
  | many (p : Pat α) : Pat α
  | some (p : Pat α) : Pat α

section
variable {α : Type}

inductive Star (S : List α → Prop) : List α → Prop
  | nil : Star S []
  | cons {u v : List α} : S u → Star S v → Star S (u ++ v)

theorem Star.one {S : List α → Prop} {u : List α} (h : S u) : Star S u := by
  have := Star.cons h Star.nil
  rwa [List.append_nil] at this
theorem Star.app {S : List α → Prop} {u v : List α} (h : Star S u) (k : Star S v) : Star S (u ++ v) := by
  induction h with
  | nil => exact k
  | cons a _ ih => rw [List.append_assoc]; exact Star.cons a ih
theorem Star.imp {S T : List α → Prop} (f : ∀ u, S u → T u) {w : List α} (h : Star S w) : Star T w := by
  induction h with
  | nil => exact .nil
  | cons a _ ih => exact .cons (f _ a) ih

mutual
def Lang : Pat α → List α → Prop
  | .none, w => w = []
  | .one x, w => w = [x]
  | .row ps, w => LRow ps w
  | .any ps, w => LAny ps w
  | .maybe p, w => w = [] ∨ Lang p w
  | .many p, w => Star (Lang p) w
  | .some p, w => ∃ u v, w = u ++ v ∧ Lang p u ∧ Star (Lang p) v
def LRow : List (Pat α) → List α → Prop
  | [], w => w = []
  | p :: ps, w => ∃ u v, w = u ++ v ∧ Lang p u ∧ LRow ps v
def LAny : List (Pat α) → List α → Prop
  | [], _ => False
  | p :: ps, w => Lang p w ∨ LAny ps w
end

mutual
def signs : Pat α → List α
  | .none => []
  | .one x => [x]
  | .row ps => signsL ps
  | .any ps => signsL ps
  | .maybe p => signs p
  | .many p => signs p
  | .some p => signs p
def signsL : List (Pat α) → List α
  | [] => []
  | p :: ps => signs p ++ signsL ps
end

mutual
def bare : Pat α → Bool
  | .none => true
  | .one _ => false
  | .row ps => bareAll ps
  | .any ps => bareAny ps
  | .maybe _ => true
  | .many _ => true
  | .some p => bare p
def bareAll : List (Pat α) → Bool
  | [] => true
  | p :: ps => bare p && bareAll ps
def bareAny : List (Pat α) → Bool
  | [] => false
  | p :: ps => bare p || bareAny ps
end

mutual
def firsts : Pat α → List α
  | .none => []
  | .one x => [x]
  | .row ps => firstsR ps
  | .any ps => firstsA ps
  | .maybe p => firsts p
  | .many p => firsts p
  | .some p => firsts p
def firstsR : List (Pat α) → List α
  | [] => []
  | p :: ps => firsts p ++ if bare p = true then firstsR ps else []
def firstsA : List (Pat α) → List α
  | [] => []
  | p :: ps => firsts p ++ firstsA ps
end

mutual
def lasts : Pat α → List α
  | .none => []
  | .one x => [x]
  | .row ps => lastsR ps
  | .any ps => lastsA ps
  | .maybe p => lasts p
  | .many p => lasts p
  | .some p => lasts p
def lastsR : List (Pat α) → List α
  | [] => []
  | p :: ps => (if bareAll ps = true then lasts p else []) ++ lastsR ps
def lastsA : List (Pat α) → List α
  | [] => []
  | p :: ps => lasts p ++ lastsA ps
end

mutual
def next : Pat α → α → α → Prop
  | .none, _, _ => False
  | .one _, _, _ => False
  | .row ps, x, y => nextR ps x y
  | .any ps, x, y => nextA ps x y
  | .maybe p, x, y => next p x y
  | .many p, x, y => next p x y ∨ (x ∈ lasts p ∧ y ∈ firsts p)
  | .some p, x, y => next p x y ∨ (x ∈ lasts p ∧ y ∈ firsts p)
def nextR : List (Pat α) → α → α → Prop
  | [], _, _ => False
  | p :: ps, x, y => next p x y ∨ nextR ps x y ∨ (x ∈ lasts p ∧ y ∈ firstsR ps)
def nextA : List (Pat α) → α → α → Prop
  | [], _, _ => False
  | p :: ps, x, y => next p x y ∨ nextA ps x y
end

mutual
def depth : Pat α → Nat
  | .none => 0
  | .one _ => 0
  | .row ps => depthL ps + 1
  | .any ps => depthL ps + 1
  | .maybe p => depth p + 1
  | .many p => depth p + 1
  | .some p => depth p + 1
def depthL : List (Pat α) → Nat
  | [] => 0
  | p :: ps => max (depth p) (depthL ps)
end

/-- the parts -/
def kids : Pat α → List (Pat α)
  | .none => []
  | .one _ => []
  | .row ps => ps
  | .any ps => ps
  | .maybe p => [p]
  | .many p => [p]
  | .some p => [p]

theorem depthL_mem : ∀ {ps : List (Pat α)} {p : Pat α}, p ∈ ps → depth p ≤ depthL ps
  | q :: ps, p, h => by
    rw [depthL]
    rcases List.mem_cons.mp h with e | h
    · subst e; exact Nat.le_max_left _ _
    · exact Nat.le_trans (depthL_mem h) (Nat.le_max_right _ _)
theorem depth_kid {p q : Pat α} (h : q ∈ kids p) : depth q + 1 ≤ depth p := by
  cases p with
  | none => cases h
  | one x => cases h
  | row ps => rw [depth]; exact Nat.succ_le_succ (depthL_mem h)
  | any ps => rw [depth]; exact Nat.succ_le_succ (depthL_mem h)
  | maybe p => rw [depth]; cases List.mem_singleton.mp h; exact Nat.le_refl _
  | many p => rw [depth]; cases List.mem_singleton.mp h; exact Nat.le_refl _
  | some p => rw [depth]; cases List.mem_singleton.mp h; exact Nat.le_refl _

/-! ### local automata -/
def Run (n : α → α → Prop) (l : α → Prop) : α → List α → Prop
  | x, [] => l x
  | x, y :: w => n x y ∧ Run n l y w
def Acc (b : Prop) (f l : α → Prop) (n : α → α → Prop) : List α → Prop
  | [] => b
  | x :: w => f x ∧ Run n l x w

theorem Run.imp {n n' : α → α → Prop} {l l' : α → Prop} (hn : ∀ x y, n x y → n' x y) (hl : ∀ x, l x → l' x) : ∀ (w : List α) (x : α), Run n l x w → Run n' l' x w
  | [], x, h => hl x h
  | y :: w, x, h => ⟨hn x y h.1, Run.imp hn hl w y h.2⟩
theorem Acc.imp {b b' : Prop} {f f' l l' : α → Prop} {n n' : α → α → Prop} (hb : b → b') (hf : ∀ x, f x → f' x) (hl : ∀ x, l x → l' x) (hn : ∀ x y, n x y → n' x y) : ∀ (w : List α), Acc b f l n w → Acc b' f' l' n' w
  | [], h => hb h
  | x :: w, h => ⟨hf x h.1, Run.imp hn hl w x h.2⟩
theorem Acc.congr {b b' : Prop} {f f' l l' : α → Prop} {n n' : α → α → Prop} (hb : b ↔ b') (hf : ∀ x, f x ↔ f' x) (hl : ∀ x, l x ↔ l' x) (hn : ∀ x y, n x y ↔ n' x y) (w : List α) : Acc b f l n w ↔ Acc b' f' l' n' w :=
  ⟨Acc.imp hb.mp (fun x => (hf x).mp) (fun x => (hl x).mp) (fun x y => (hn x y).mp) w, Acc.imp hb.mpr (fun x => (hf x).mpr) (fun x => (hl x).mpr) (fun x y => (hn x y).mpr) w⟩

/-- runs one behind the other -/
theorem Run.app {n : α → α → Prop} {l l' : α → Prop} {y : α} {v : List α} (hn : ∀ x, l' x → n x y) (h2 : Run n l y v) : ∀ (u : List α) (x : α), Run n l' x u → Run n l x (u ++ y :: v)
  | [], x, h => ⟨hn x h, h2⟩
  | z :: u, x, h => ⟨h.1, Run.app hn h2 u z h.2⟩

section cat
variable {b1 b2 : Prop} {f1 f2 l1 l2 S1 S2 : α → Prop} {n1 n2 : α → α → Prop}
def catN (l1 f2 : α → Prop) (n1 n2 : α → α → Prop) : α → α → Prop := fun x y => n1 x y ∨ n2 x y ∨ (l1 x ∧ f2 y)
def catL (b2 : Prop) (l1 l2 : α → Prop) : α → Prop := fun x => (b2 ∧ l1 x) ∨ l2 x
def catF (b1 : Prop) (f1 f2 : α → Prop) : α → Prop := fun x => f1 x ∨ (b1 ∧ f2 x)

theorem cat_second (hn1 : ∀ x y, n1 x y → S1 x ∧ S1 y) (hn2 : ∀ x y, n2 x y → S2 x ∧ S2 y) (hl1 : ∀ x, l1 x → S1 x) (disj : ∀ x, S1 x → S2 x → False) :
    ∀ (w : List α) (x : α), S2 x → Run (catN l1 f2 n1 n2) (catL b2 l1 l2) x w → Run n2 l2 x w
  | [], x, hs, h => by
    rcases h with ⟨_, h⟩ | h
    · exact (disj x (hl1 x h) hs).elim
    · exact h
  | y :: w, x, hs, ⟨h, r⟩ => by
    rcases h with h | h | ⟨h, _⟩
    · exact (disj x (hn1 x y h).1 hs).elim
    · exact ⟨h, cat_second hn1 hn2 hl1 disj w y (hn2 x y h).2 r⟩
    · exact (disj x (hl1 x h) hs).elim
theorem cat_first (hn1 : ∀ x y, n1 x y → S1 x ∧ S1 y) (hn2 : ∀ x y, n2 x y → S2 x ∧ S2 y) (hl1 : ∀ x, l1 x → S1 x) (hl2 : ∀ x, l2 x → S2 x) (hf2 : ∀ x, f2 x → S2 x) (disj : ∀ x, S1 x → S2 x → False) :
    ∀ (w : List α) (x : α), S1 x → Run (catN l1 f2 n1 n2) (catL b2 l1 l2) x w → ∃ u v, w = u ++ v ∧ Run n1 l1 x u ∧ Acc b2 f2 l2 n2 v
  | [], x, hs, h => by
    rcases h with ⟨hb, h⟩ | h
    · exact ⟨[], [], rfl, h, hb⟩
    · exact (disj x hs (hl2 x h)).elim
  | y :: w, x, hs, ⟨h, r⟩ => by
    rcases h with h | h | ⟨h, hf⟩
    · obtain ⟨u, v, e, hu, hv⟩ := cat_first hn1 hn2 hl1 hl2 hf2 disj w y (hn1 x y h).2 r
      exact ⟨y :: u, v, by rw [e]; rfl, ⟨h, hu⟩, hv⟩
    · exact (disj x hs (hn2 x y h).1).elim
    · exact ⟨[], y :: w, rfl, h, hf, cat_second hn1 hn2 hl1 disj w y (hf2 y hf) r⟩
theorem acc_cat (hf1 : ∀ x, f1 x → S1 x) (hn1 : ∀ x y, n1 x y → S1 x ∧ S1 y) (hn2 : ∀ x y, n2 x y → S2 x ∧ S2 y) (hl1 : ∀ x, l1 x → S1 x) (hl2 : ∀ x, l2 x → S2 x) (hf2 : ∀ x, f2 x → S2 x) (disj : ∀ x, S1 x → S2 x → False) (w : List α) :
    (∃ u v, w = u ++ v ∧ Acc b1 f1 l1 n1 u ∧ Acc b2 f2 l2 n2 v) ↔ Acc (b1 ∧ b2) (catF b1 f1 f2) (catL b2 l1 l2) (catN l1 f2 n1 n2) w := by
  constructor
  · rintro ⟨u, v, rfl, hu, hv⟩
    have up : ∀ (w : List α) (x : α), Run n2 l2 x w → Run (catN l1 f2 n1 n2) (catL b2 l1 l2) x w := Run.imp (fun x y h => .inr (.inl h)) (fun x h => .inr h)
    cases u with
    | nil =>
      cases v with
      | nil => exact ⟨hu, hv⟩
      | cons y v => exact ⟨.inr ⟨hu, hv.1⟩, up v y hv.2⟩
    | cons x u =>
      refine ⟨.inl hu.1, ?_⟩
      cases v with
      | nil =>
        show Run _ _ x (u ++ [])
        rw [List.append_nil]
        exact Run.imp (fun x y h => .inl h) (fun x h => .inl ⟨hv, h⟩) u x hu.2
      | cons y v =>
        refine Run.app (l' := l1) (fun x h => .inr (.inr ⟨h, hv.1⟩)) (up v y hv.2) u x ?_
        exact Run.imp (fun x y h => .inl h) (fun x h => h) u x hu.2
  · intro h
    cases w with
    | nil => exact ⟨[], [], rfl, h.1, h.2⟩
    | cons x w =>
      obtain ⟨h, r⟩ := h
      rcases h with h | ⟨hb, h⟩
      · obtain ⟨u, v, e, hu, hv⟩ := cat_first hn1 hn2 hl1 hl2 hf2 disj w x (hf1 x h) r
        exact ⟨x :: u, v, by rw [e]; rfl, ⟨h, hu⟩, hv⟩
      · exact ⟨[], x :: w, rfl, hb, h, cat_second hn1 hn2 hl1 disj w x (hf2 x h) r⟩
end cat

section alt
variable {b1 b2 : Prop} {f1 f2 l1 l2 S1 S2 : α → Prop} {n1 n2 : α → α → Prop}
theorem alt_first (hn1 : ∀ x y, n1 x y → S1 x ∧ S1 y) (hn2 : ∀ x y, n2 x y → S2 x ∧ S2 y) (hl2 : ∀ x, l2 x → S2 x) (disj : ∀ x, S1 x → S2 x → False) :
    ∀ (w : List α) (x : α), S1 x → Run (fun x y => n1 x y ∨ n2 x y) (fun x => l1 x ∨ l2 x) x w → Run n1 l1 x w
  | [], x, hs, h => by
    rcases h with h | h
    · exact h
    · exact (disj x hs (hl2 x h)).elim
  | y :: w, x, hs, ⟨h, r⟩ => by
    rcases h with h | h
    · exact ⟨h, alt_first hn1 hn2 hl2 disj w y (hn1 x y h).2 r⟩
    · exact (disj x hs (hn2 x y h).1).elim
theorem acc_alt (hf1 : ∀ x, f1 x → S1 x) (hn1 : ∀ x y, n1 x y → S1 x ∧ S1 y) (hn2 : ∀ x y, n2 x y → S2 x ∧ S2 y) (hl1 : ∀ x, l1 x → S1 x) (hl2 : ∀ x, l2 x → S2 x) (hf2 : ∀ x, f2 x → S2 x) (disj : ∀ x, S1 x → S2 x → False) (w : List α) :
    (Acc b1 f1 l1 n1 w ∨ Acc b2 f2 l2 n2 w) ↔ Acc (b1 ∨ b2) (fun x => f1 x ∨ f2 x) (fun x => l1 x ∨ l2 x) (fun x y => n1 x y ∨ n2 x y) w := by
  constructor
  · rintro (h | h)
    · exact Acc.imp .inl (fun _ => .inl) (fun _ => .inl) (fun _ _ => .inl) w h
    · exact Acc.imp .inr (fun _ => .inr) (fun _ => .inr) (fun _ _ => .inr) w h
  · intro h
    cases w with
    | nil => exact h
    | cons x w =>
      obtain ⟨h, r⟩ := h
      rcases h with h | h
      · exact .inl ⟨h, alt_first hn1 hn2 hl2 disj w x (hf1 x h) r⟩
      · refine .inr ⟨h, alt_first (S1 := S2) (S2 := S1) hn2 hn1 hl1 (fun x a b => disj x b a) w x (hf2 x h) ?_⟩
        exact Run.imp (fun x y h => h.elim .inr .inl) (fun x h => h.elim .inr .inl) w x r
end alt

section star
variable {b : Prop} {f l : α → Prop} {n : α → α → Prop}
def starN (f l : α → Prop) (n : α → α → Prop) : α → α → Prop := fun x y => n x y ∨ (l x ∧ f y)
theorem star_split : ∀ (w : List α) (x : α), Run (starN f l n) l x w → ∃ u v, w = u ++ v ∧ Run n l x u ∧ Star (Acc b f l n) v
  | [], x, h => ⟨[], [], rfl, h, .nil⟩
  | y :: w, x, ⟨h, r⟩ => by
    obtain ⟨u, v, e, hu, hv⟩ := star_split w y r
    rcases h with h | ⟨h, hf⟩
    · exact ⟨y :: u, v, by rw [e]; rfl, ⟨h, hu⟩, hv⟩
    · refine ⟨[], y :: w, rfl, h, ?_⟩
      have := Star.cons (S := Acc b f l n) (u := y :: u) ⟨hf, hu⟩ hv
      rwa [List.cons_append, ← e] at this
theorem star_acc {w : List α} (h : Star (Acc b f l n) w) : Acc True f l (starN f l n) w := by
  induction h with
  | nil => trivial
  | @cons u v hu _ ih =>
    cases u with
    | nil => exact ih
    | cons x u =>
      refine ⟨hu.1, ?_⟩
      cases v with
      | nil => show Run _ _ x (u ++ []); rw [List.append_nil]; exact Run.imp (fun x y h => .inl h) (fun x h => h) u x hu.2
      | cons y v => exact Run.app (l' := l) (fun x h => .inr ⟨h, ih.1⟩) ih.2 u x (Run.imp (fun x y h => .inl h) (fun x h => h) u x hu.2)
theorem acc_star (w : List α) : Star (Acc b f l n) w ↔ Acc True f l (starN f l n) w := by
  refine ⟨star_acc, fun h => ?_⟩
  cases w with
  | nil => exact .nil
  | cons x w =>
    obtain ⟨u, v, e, hu, hv⟩ := star_split (b := b) w x h.2
    have := Star.cons (S := Acc b f l n) (u := x :: u) ⟨h.1, hu⟩ hv
    rwa [List.cons_append, ← e] at this
theorem acc_some (w : List α) : (∃ u v, w = u ++ v ∧ Acc b f l n u ∧ Star (Acc b f l n) v) ↔ Acc b f l (starN f l n) w := by
  constructor
  · rintro ⟨u, v, rfl, hu, hv⟩
    cases u with
    | nil =>
      cases v with
      | nil => exact hu
      | cons y v => exact star_acc hv
    | cons x u => exact star_acc (Star.cons hu hv)
  · intro h
    cases w with
    | nil => exact ⟨[], [], rfl, h, .nil⟩
    | cons x w =>
      obtain ⟨u, v, e, hu, hv⟩ := star_split (b := b) w x h.2
      exact ⟨x :: u, v, by rw [e]; rfl, ⟨h.1, hu⟩, hv⟩
end star

/-! ### where the sets lie -/
mutual
theorem firsts_sub : ∀ (p : Pat α) (x : α), x ∈ firsts p → x ∈ signs p
  | .none, x, h => by simp [firsts] at h
  | .one y, x, h => by simpa [firsts, signs] using h
  | .row ps, x, h => by rw [firsts] at h; rw [signs]; exact firstsR_sub ps x h
  | .any ps, x, h => by rw [firsts] at h; rw [signs]; exact firstsA_sub ps x h
  | .maybe p, x, h => by rw [firsts] at h; rw [signs]; exact firsts_sub p x h
  | .many p, x, h => by rw [firsts] at h; rw [signs]; exact firsts_sub p x h
  | .some p, x, h => by rw [firsts] at h; rw [signs]; exact firsts_sub p x h
theorem firstsR_sub : ∀ (ps : List (Pat α)) (x : α), x ∈ firstsR ps → x ∈ signsL ps
  | [], x, h => by simp [firstsR] at h
  | p :: ps, x, h => by
    rw [firstsR] at h; rw [signsL]
    rcases List.mem_append.mp h with h | h
    · exact List.mem_append_left _ (firsts_sub p x h)
    · split at h
      · exact List.mem_append_right _ (firstsR_sub ps x h)
      · cases h
theorem firstsA_sub : ∀ (ps : List (Pat α)) (x : α), x ∈ firstsA ps → x ∈ signsL ps
  | [], x, h => by simp [firstsA] at h
  | p :: ps, x, h => by
    rw [firstsA] at h; rw [signsL]
    rcases List.mem_append.mp h with h | h
    · exact List.mem_append_left _ (firsts_sub p x h)
    · exact List.mem_append_right _ (firstsA_sub ps x h)
end
mutual
theorem lasts_sub : ∀ (p : Pat α) (x : α), x ∈ lasts p → x ∈ signs p
  | .none, x, h => by simp [lasts] at h
  | .one y, x, h => by simpa [lasts, signs] using h
  | .row ps, x, h => by rw [lasts] at h; rw [signs]; exact lastsR_sub ps x h
  | .any ps, x, h => by rw [lasts] at h; rw [signs]; exact lastsA_sub ps x h
  | .maybe p, x, h => by rw [lasts] at h; rw [signs]; exact lasts_sub p x h
  | .many p, x, h => by rw [lasts] at h; rw [signs]; exact lasts_sub p x h
  | .some p, x, h => by rw [lasts] at h; rw [signs]; exact lasts_sub p x h
theorem lastsR_sub : ∀ (ps : List (Pat α)) (x : α), x ∈ lastsR ps → x ∈ signsL ps
  | [], x, h => by simp [lastsR] at h
  | p :: ps, x, h => by
    rw [lastsR] at h; rw [signsL]
    rcases List.mem_append.mp h with h | h
    · split at h
      · exact List.mem_append_left _ (lasts_sub p x h)
      · cases h
    · exact List.mem_append_right _ (lastsR_sub ps x h)
theorem lastsA_sub : ∀ (ps : List (Pat α)) (x : α), x ∈ lastsA ps → x ∈ signsL ps
  | [], x, h => by simp [lastsA] at h
  | p :: ps, x, h => by
    rw [lastsA] at h; rw [signsL]
    rcases List.mem_append.mp h with h | h
    · exact List.mem_append_left _ (lasts_sub p x h)
    · exact List.mem_append_right _ (lastsA_sub ps x h)
end
mutual
theorem next_sub : ∀ (p : Pat α) (x y : α), next p x y → x ∈ signs p ∧ y ∈ signs p
  | .none, x, y, h => by simp [next] at h
  | .one z, x, y, h => by simp [next] at h
  | .row ps, x, y, h => by rw [next] at h; rw [signs]; exact nextR_sub ps x y h
  | .any ps, x, y, h => by rw [next] at h; rw [signs]; exact nextA_sub ps x y h
  | .maybe p, x, y, h => by rw [next] at h; rw [signs]; exact next_sub p x y h
  | .many p, x, y, h => by
    rw [next] at h; rw [signs]
    rcases h with h | ⟨a, b⟩
    · exact next_sub p x y h
    · exact ⟨lasts_sub p x a, firsts_sub p y b⟩
  | .some p, x, y, h => by
    rw [next] at h; rw [signs]
    rcases h with h | ⟨a, b⟩
    · exact next_sub p x y h
    · exact ⟨lasts_sub p x a, firsts_sub p y b⟩
theorem nextR_sub : ∀ (ps : List (Pat α)) (x y : α), nextR ps x y → x ∈ signsL ps ∧ y ∈ signsL ps
  | [], x, y, h => by simp [nextR] at h
  | p :: ps, x, y, h => by
    rw [nextR] at h; rw [signsL]
    rcases h with h | h | ⟨a, b⟩
    · exact ⟨List.mem_append_left _ (next_sub p x y h).1, List.mem_append_left _ (next_sub p x y h).2⟩
    · exact ⟨List.mem_append_right _ (nextR_sub ps x y h).1, List.mem_append_right _ (nextR_sub ps x y h).2⟩
    · exact ⟨List.mem_append_left _ (lasts_sub p x a), List.mem_append_right _ (firstsR_sub ps y b)⟩
theorem nextA_sub : ∀ (ps : List (Pat α)) (x y : α), nextA ps x y → x ∈ signsL ps ∧ y ∈ signsL ps
  | [], x, y, h => by simp [nextA] at h
  | p :: ps, x, y, h => by
    rw [nextA] at h; rw [signsL]
    rcases h with h | h
    · exact ⟨List.mem_append_left _ (next_sub p x y h).1, List.mem_append_left _ (next_sub p x y h).2⟩
    · exact ⟨List.mem_append_right _ (nextA_sub ps x y h).1, List.mem_append_right _ (nextA_sub ps x y h).2⟩
end

/-! ### the steps say just the language -/
abbrev AccP (p : Pat α) : List α → Prop := Acc (bare p = true) (· ∈ firsts p) (· ∈ lasts p) (next p)
theorem nodup_app {l m : List α} (h : (l ++ m).Nodup) : l.Nodup ∧ m.Nodup ∧ ∀ x, x ∈ l → x ∈ m → False := by
  rw [List.nodup_append] at h
  exact ⟨h.1, h.2.1, fun x a b => h.2.2 x a x b rfl⟩
theorem star_congr {S T : List α → Prop} (h : ∀ w, S w ↔ T w) (w : List α) : Star S w ↔ Star T w := ⟨Star.imp fun u => (h u).mp, Star.imp fun u => (h u).mpr⟩
mutual
theorem lang_acc : ∀ (p : Pat α), (signs p).Nodup → ∀ w, Lang p w ↔ AccP p w
  | .none, _, w => by
    unfold AccP
    cases w <;> simp [Lang, Acc, bare, firsts]
  | .one x, _, w => by
    unfold AccP
    rw [Lang]
    cases w with
    | nil => simp [Acc, bare]
    | cons y w =>
      cases w with
      | nil => simp [Acc, Run, firsts, lasts]
      | cons z w => simp [Acc, Run, next]
  | .row ps, nd, w => by
    rw [signs] at nd
    rw [Lang, lang_row ps nd w]
    refine Acc.congr ?_ ?_ ?_ ?_ w <;> intros <;> simp [bare, firsts, lasts, next]
  | .any ps, nd, w => by
    rw [signs] at nd
    rw [Lang, lang_any ps nd w]
    refine Acc.congr ?_ ?_ ?_ ?_ w <;> intros <;> simp [bare, firsts, lasts, next]
  | .maybe p, nd, w => by
    rw [signs] at nd
    rw [Lang, lang_acc p nd w]
    cases w with
    | nil => simp [Acc, bare]
    | cons x w =>
      simp only [reduceCtorEq, false_or]
      unfold AccP Acc
      simp only [firsts, lasts]
      refine and_congr_right fun _ => ?_
      exact ⟨Run.imp (fun x y h => by rw [next]; exact h) (fun _ h => h) w x, Run.imp (fun x y h => by rw [next] at h; exact h) (fun _ h => h) w x⟩
  | .many p, nd, w => by
    rw [signs] at nd
    rw [Lang, star_congr (lang_acc p nd) w, acc_star]
    refine Acc.congr ?_ ?_ ?_ ?_ w <;> intros <;> simp [bare, firsts, lasts, next, starN]
  | .some p, nd, w => by
    rw [signs] at nd
    have : Lang (.some p) w ↔ ∃ u v, w = u ++ v ∧ AccP p u ∧ Star (AccP p) v := by
      rw [Lang]
      refine exists_congr fun u => exists_congr fun v => and_congr_right fun _ => and_congr (lang_acc p nd u) (star_congr (lang_acc p nd) v)
    rw [this, acc_some]
    refine Acc.congr ?_ ?_ ?_ ?_ w <;> intros <;> simp [bare, firsts, lasts, next, starN]
theorem lang_row : ∀ (ps : List (Pat α)), (signsL ps).Nodup → ∀ w, LRow ps w ↔ Acc (bareAll ps = true) (· ∈ firstsR ps) (· ∈ lastsR ps) (nextR ps) w
  | [], _, w => by cases w <;> simp [LRow, Acc, bareAll, firstsR]
  | p :: ps, nd, w => by
    rw [signsL] at nd
    obtain ⟨n1, n2, dj⟩ := nodup_app nd
    have : LRow (p :: ps) w ↔ ∃ u v, w = u ++ v ∧ AccP p u ∧ Acc (bareAll ps = true) (· ∈ firstsR ps) (· ∈ lastsR ps) (nextR ps) v := by
      rw [LRow]
      refine exists_congr fun u => exists_congr fun v => and_congr_right fun _ => and_congr (lang_acc p n1 u) (lang_row ps n2 v)
    rw [this, acc_cat (S1 := (· ∈ signs p)) (S2 := (· ∈ signsL ps)) (firsts_sub p) (next_sub p) (nextR_sub ps) (lasts_sub p) (lastsR_sub ps) (firstsR_sub ps) dj]
    refine Acc.congr ?_ ?_ ?_ ?_ w
    · simp [bareAll]
    · intro x
      unfold catF
      rw [firstsR, List.mem_append]
      by_cases hb : bare p = true <;> simp [hb]
    · intro x
      unfold catL
      rw [lastsR, List.mem_append]
      by_cases hb : bareAll ps = true <;> simp [hb]
    · intro x y
      unfold catN
      rw [nextR]
theorem lang_any : ∀ (ps : List (Pat α)), (signsL ps).Nodup → ∀ w, LAny ps w ↔ Acc (bareAny ps = true) (· ∈ firstsA ps) (· ∈ lastsA ps) (nextA ps) w
  | [], _, w => by cases w <;> simp [LAny, Acc, bareAny, firstsA]
  | p :: ps, nd, w => by
    rw [signsL] at nd
    obtain ⟨n1, n2, dj⟩ := nodup_app nd
    rw [LAny, lang_acc p n1 w, lang_any ps n2 w, acc_alt (S1 := (· ∈ signs p)) (S2 := (· ∈ signsL ps)) (firsts_sub p) (next_sub p) (nextA_sub ps) (lasts_sub p) (lastsA_sub ps) (firstsA_sub ps) dj]
    refine Acc.congr ?_ ?_ ?_ ?_ w
    · simp [bareAny]
    · intro x; rw [firstsA, List.mem_append]
    · intro x; rw [lastsA, List.mem_append]
    · intro x y; rw [nextA]
end

/-! ### rows from the left -/
theorem bareAll_append : ∀ (ps qs : List (Pat α)), bareAll (ps ++ qs) = (bareAll ps && bareAll qs)
  | [], qs => by simp [bareAll]
  | p :: ps, qs => by rw [List.cons_append, bareAll, bareAll, bareAll_append ps qs, Bool.and_assoc]
theorem bareAll_map : ∀ (ps : List (Pat α)), (ps.map bare).all id = bareAll ps
  | [] => rfl
  | p :: ps => by rw [List.map_cons, List.all_cons, bareAll_map ps, bareAll]; rfl
theorem bareAny_map : ∀ (ps : List (Pat α)), (ps.map bare).any id = bareAny ps
  | [] => rfl
  | p :: ps => by rw [List.map_cons, List.any_cons, bareAny_map ps, bareAny]; rfl
theorem signsL_append : ∀ (ps qs : List (Pat α)), signsL (ps ++ qs) = signsL ps ++ signsL qs
  | [], qs => by simp [signsL]
  | p :: ps, qs => by rw [List.cons_append, signsL, signsL, signsL_append ps qs, List.append_assoc]
theorem signsL_one (p : Pat α) : signsL [p] = signs p := by rw [signsL, signsL, List.append_nil]
theorem signsL_snoc (ps : List (Pat α)) (p : Pat α) : signsL (ps ++ [p]) = signsL ps ++ signs p := by rw [signsL_append, signsL_one]
theorem firstsA_append : ∀ (ps qs : List (Pat α)), firstsA (ps ++ qs) = firstsA ps ++ firstsA qs
  | [], qs => by simp [firstsA]
  | p :: ps, qs => by rw [List.cons_append, firstsA, firstsA, firstsA_append ps qs, List.append_assoc]
theorem firstsA_snoc (ps : List (Pat α)) (p : Pat α) : firstsA (ps ++ [p]) = firstsA ps ++ firsts p := by rw [firstsA_append]; simp [firstsA]
theorem lastsA_append : ∀ (ps qs : List (Pat α)), lastsA (ps ++ qs) = lastsA ps ++ lastsA qs
  | [], qs => by simp [lastsA]
  | p :: ps, qs => by rw [List.cons_append, lastsA, lastsA, lastsA_append ps qs, List.append_assoc]
theorem lastsA_snoc (ps : List (Pat α)) (p : Pat α) : lastsA (ps ++ [p]) = lastsA ps ++ lasts p := by rw [lastsA_append]; simp [lastsA]
theorem firstsR_append : ∀ (ps qs : List (Pat α)), firstsR (ps ++ qs) = firstsR ps ++ if bareAll ps = true then firstsR qs else []
  | [], qs => by simp [firstsR, bareAll]
  | p :: ps, qs => by
    rw [List.cons_append, firstsR, firstsR, firstsR_append ps qs, bareAll, List.append_assoc]
    by_cases hb : bare p = true <;> simp [hb]
theorem lastsR_append : ∀ (ps qs : List (Pat α)), lastsR (ps ++ qs) = (if bareAll qs = true then lastsR ps else []) ++ lastsR qs
  | [], qs => by simp [lastsR]
  | p :: ps, qs => by
    rw [List.cons_append, lastsR, lastsR, lastsR_append ps qs, bareAll_append]
    by_cases hb : bareAll qs = true <;> simp [hb]
theorem lastsR_snoc (ps : List (Pat α)) (p : Pat α) : lastsR (ps ++ [p]) = (if bare p = true then lastsR ps else []) ++ lasts p := by
  rw [lastsR_append]
  simp [lastsR, bareAll]
theorem nextR_snoc : ∀ (ps : List (Pat α)) (p : Pat α) (x y : α), nextR (ps ++ [p]) x y ↔ nextR ps x y ∨ next p x y ∨ (x ∈ lastsR ps ∧ y ∈ firsts p)
  | [], p, x, y => by simp [nextR, lastsR, firstsR]
  | q :: ps, p, x, y => by
    rw [List.cons_append, nextR, nextR, nextR_snoc ps p x y, firstsR_append, List.mem_append, lastsR, List.mem_append]
    have e : firstsR [p] = firsts p := by simp [firstsR]
    rw [e]
    by_cases hb : bareAll ps = true
    · simp only [hb, if_true]
      constructor
      · rintro (h | (h | h | ⟨a, b⟩) | ⟨a, b | b⟩)
        · exact .inl (.inl h)
        · exact .inl (.inr (.inl h))
        · exact .inr (.inl h)
        · exact .inr (.inr ⟨.inr a, b⟩)
        · exact .inl (.inr (.inr ⟨a, b⟩))
        · exact .inr (.inr ⟨.inl a, b⟩)
      · rintro ((h | h | ⟨a, b⟩) | h | ⟨a | a, b⟩)
        · exact .inl h
        · exact .inr (.inl (.inl h))
        · exact .inr (.inr ⟨a, .inl b⟩)
        · exact .inr (.inl (.inr (.inl h)))
        · exact .inr (.inr ⟨a, .inr b⟩)
        · exact .inr (.inl (.inr (.inr ⟨a, b⟩)))
    · have hb : bareAll ps = false := Bool.eq_false_iff.mpr hb
      simp only [hb, Bool.false_eq_true, if_false, List.not_mem_nil, or_false, false_or]
      constructor
      · rintro (h | (h | h | ⟨a, b⟩) | ⟨a, b⟩)
        · exact .inl (.inl h)
        · exact .inl (.inr (.inl h))
        · exact .inr (.inl h)
        · exact .inr (.inr ⟨a, b⟩)
        · exact .inl (.inr (.inr ⟨a, b⟩))
      · rintro ((h | h | ⟨a, b⟩) | h | ⟨a, b⟩)
        · exact .inl h
        · exact .inr (.inl (.inl h))
        · exact .inr (.inr ⟨a, b⟩)
        · exact .inr (.inl (.inr (.inl h)))
        · exact .inr (.inl (.inr (.inr ⟨a, b⟩)))
theorem nextA_snoc : ∀ (ps : List (Pat α)) (p : Pat α) (x y : α), nextA (ps ++ [p]) x y ↔ nextA ps x y ∨ next p x y
  | [], p, x, y => by simp [nextA]
  | q :: ps, p, x, y => by rw [List.cons_append, nextA, nextA, nextA_snoc ps p x y, or_assoc]
theorem LRow_snoc : ∀ {ps : List (Pat α)} {p : Pat α} {u v : List α}, LRow ps u → Lang p v → LRow (ps ++ [p]) (u ++ v)
  | [], p, u, v, h, k => by
    rw [LRow] at h
    rw [h, List.nil_append, List.nil_append, LRow]
    exact ⟨v, [], (List.append_nil v).symm, k, by rw [LRow]⟩
  | q :: ps, p, u, v, h, k => by
    rw [LRow] at h
    obtain ⟨a, b, e, ha, hb⟩ := h
    rw [List.cons_append, LRow]
    exact ⟨a, b ++ v, by rw [e, List.append_assoc], ha, LRow_snoc hb k⟩
theorem LAny_mem : ∀ {ps : List (Pat α)} {w : List α}, LAny ps w ↔ ∃ p, p ∈ ps ∧ Lang p w
  | [], w => by simp [LAny]
  | q :: ps, w => by rw [LAny, LAny_mem (ps := ps)]; simp

/-! ### sizes -/
theorem len_firsts (p : Pat α) : (firsts p).length ≤ (signs p).length := by
  have main : (∀ p : Pat α, (firsts p).length ≤ (signs p).length) := by
    intro p
    exact go p
  exact main p
where
  go : ∀ p : Pat α, (firsts p).length ≤ (signs p).length
    | .none => by simp [firsts]
    | .one y => by simp [firsts, signs]
    | .row ps => by rw [firsts, signs]; exact goR ps
    | .any ps => by rw [firsts, signs]; exact goA ps
    | .maybe p => by rw [firsts, signs]; exact go p
    | .many p => by rw [firsts, signs]; exact go p
    | .some p => by rw [firsts, signs]; exact go p
  goR : ∀ ps : List (Pat α), (firstsR ps).length ≤ (signsL ps).length
    | [] => by simp [firstsR]
    | p :: ps => by
      rw [firstsR, signsL, List.length_append, List.length_append]
      have h1 := go p
      have h2 := goR ps
      split
      · omega
      · simp only [List.length_nil]; omega
  goA : ∀ ps : List (Pat α), (firstsA ps).length ≤ (signsL ps).length
    | [] => by simp [firstsA]
    | p :: ps => by
      rw [firstsA, signsL, List.length_append, List.length_append]
      have h1 := go p
      have h2 := goA ps
      omega
theorem len_lasts (p : Pat α) : (lasts p).length ≤ (signs p).length := go p
where
  go : ∀ p : Pat α, (lasts p).length ≤ (signs p).length
    | .none => by simp [lasts]
    | .one y => by simp [lasts, signs]
    | .row ps => by rw [lasts, signs]; exact goR ps
    | .any ps => by rw [lasts, signs]; exact goA ps
    | .maybe p => by rw [lasts, signs]; exact go p
    | .many p => by rw [lasts, signs]; exact go p
    | .some p => by rw [lasts, signs]; exact go p
  goR : ∀ ps : List (Pat α), (lastsR ps).length ≤ (signsL ps).length
    | [] => by simp [lastsR]
    | p :: ps => by
      rw [lastsR, signsL, List.length_append, List.length_append]
      have h1 := go p
      have h2 := goR ps
      split
      · omega
      · simp only [List.length_nil]; omega
  goA : ∀ ps : List (Pat α), (lastsA ps).length ≤ (signsL ps).length
    | [] => by simp [lastsA]
    | p :: ps => by
      rw [lastsA, signsL, List.length_append, List.length_append]
      have h1 := go p
      have h2 := goA ps
      omega
theorem signsL_mem : ∀ {ps : List (Pat α)} {q : Pat α}, q ∈ ps → (signs q).length ≤ (signsL ps).length ∧ ∀ x, x ∈ signs q → x ∈ signsL ps
  | p :: ps, q, h => by
    rw [signsL, List.length_append]
    rcases List.mem_cons.mp h with e | h
    · subst e; exact ⟨by omega, fun x => List.mem_append_left _⟩
    · have := signsL_mem h
      exact ⟨by omega, fun x hx => List.mem_append_right _ (this.2 x hx)⟩
/-- a node that is not One: its signs are its parts' -/
theorem signs_kids {p : Pat α} (h : ∀ x, p ≠ .one x) : signs p = signsL (kids p) := by
  cases p with
  | none => simp [signs, kids, signsL]
  | one x => exact absurd rfl (h x)
  | row ps => rw [signs, kids]
  | any ps => rw [signs, kids]
  | maybe p => rw [signs, kids, signsL_one]
  | many p => rw [signs, kids, signsL_one]
  | some p => rw [signs, kids, signsL_one]
theorem signs_kid {p q : Pat α} (h : q ∈ kids p) : (signs q).length ≤ (signs p).length ∧ ∀ x, x ∈ signs q → x ∈ signs p := by
  have hn : ∀ x, p ≠ .one x := fun x e => by subst e; cases h
  rw [signs_kids hn]
  exact signsL_mem h

/-! ### bounds: no list of parts is long, an any has parts -/
mutual
def Fair : Pat α → Prop
  | .none => True
  | .one _ => True
  | .row ps => ps.length ≤ 1000 ∧ FairL ps
  | .any ps => ps.length ≤ 1000 ∧ 0 < ps.length ∧ FairL ps
  | .maybe p => Fair p
  | .many p => Fair p
  | .some p => Fair p
def FairL : List (Pat α) → Prop
  | [] => True
  | p :: ps => Fair p ∧ FairL ps
end
theorem FairL_mem : ∀ {ps : List (Pat α)} {q : Pat α}, FairL ps → q ∈ ps → Fair q
  | p :: ps, q, f, h => by
    rw [FairL] at f
    rcases List.mem_cons.mp h with e | h
    · subst e; exact f.1
    · exact FairL_mem f.2 h
theorem FairL_of : ∀ {ps : List (Pat α)}, (∀ q, q ∈ ps → Fair q) → FairL ps
  | [], _ => by rw [FairL]; trivial
  | p :: ps, h => by rw [FairL]; exact ⟨h p List.mem_cons_self, FairL_of fun q hq => h q (List.mem_cons_of_mem _ hq)⟩
theorem fair_kid {p q : Pat α} (f : Fair p) (h : q ∈ kids p) : Fair q := by
  cases p with
  | none => cases h
  | one x => cases h
  | row ps => rw [Fair] at f; exact FairL_mem f.2 h
  | any ps => rw [Fair] at f; exact FairL_mem f.2.2 h
  | maybe p => rw [Fair] at f; cases List.mem_singleton.mp h; exact f
  | many p => rw [Fair] at f; cases List.mem_singleton.mp h; exact f
  | some p => rw [Fair] at f; cases List.mem_singleton.mp h; exact f
theorem fair_len {p : Pat α} (f : Fair p) : (kids p).length ≤ 1000 := by
  cases p with
  | none => simp [kids]
  | one x => simp [kids]
  | row ps => rw [Fair] at f; exact f.1
  | any ps => rw [Fair] at f; exact f.1
  | maybe p => simp [kids]
  | many p => simp [kids]
  | some p => simp [kids]

/-! ### words cut from place to place -/
def Cut (S : List α → Prop) (w : List α) (s e : Nat) : Prop := s ≤ e ∧ e ≤ w.length ∧ S ((w.drop s).take (e - s))
theorem cut_nil {w : List α} {s e : Nat} : Cut (fun u => u = []) w s e ↔ s = e ∧ e ≤ w.length := by
  constructor
  · rintro ⟨h1, h2, h3⟩
    have : ((w.drop s).take (e - s)).length = 0 := by
      have h3 : (w.drop s).take (e - s) = [] := h3
      rw [h3]; rfl
    rw [List.length_take, List.length_drop] at this
    omega
  · rintro ⟨rfl, h⟩
    exact ⟨Nat.le_refl _, h, by simp⟩
theorem cut_one {w : List α} {x : α} {s e : Nat} : Cut (fun u => u = [x]) w s e ↔ e = s + 1 ∧ (w.drop s).take 1 = [x] := by
  constructor
  · rintro ⟨h1, h2, h3⟩
    have h3 : (w.drop s).take (e - s) = [x] := h3
    have : ((w.drop s).take (e - s)).length = 1 := by rw [h3]; rfl
    rw [List.length_take, List.length_drop] at this
    have e1 : e - s = 1 := by omega
    rw [e1] at h3
    exact ⟨by omega, h3⟩
  · rintro ⟨rfl, h⟩
    have : ((w.drop s).take 1).length = 1 := by rw [h]; rfl
    rw [List.length_take, List.length_drop] at this
    refine ⟨by omega, by omega, ?_⟩
    have : s + 1 - s = 1 := by omega
    rw [this]
    exact h
theorem take_drop_split (w : List α) {s m e : Nat} (h1 : s ≤ m) (h2 : m ≤ e) : (w.drop s).take (e - s) = (w.drop s).take (m - s) ++ (w.drop m).take (e - m) := by
  have a : e - s = (m - s) + (e - m) := by omega
  rw [a, List.take_add, List.drop_drop]
  have b : s + (m - s) = m := by omega
  rw [b]
theorem cut_cat {S T U : List α → Prop} (hU : ∀ w, U w ↔ ∃ u v, w = u ++ v ∧ S u ∧ T v) {w : List α} {s e : Nat} : Cut U w s e ↔ ∃ m, Cut S w s m ∧ Cut T w m e := by
  constructor
  · rintro ⟨h1, h2, h3⟩
    obtain ⟨u, v, e1, hu, hv⟩ := (hU _).mp h3
    have hl : u.length + v.length = e - s := by
      have : ((w.drop s).take (e - s)).length = u.length + v.length := by rw [e1, List.length_append]
      rw [List.length_take, List.length_drop] at this
      omega
    have m1 : s ≤ s + u.length := by omega
    have m2 : s + u.length ≤ e := by omega
    have sp := take_drop_split w m1 m2
    rw [e1] at sp
    have k : s + u.length - s = u.length := by omega
    rw [k] at sp
    have lk : ((w.drop s).take u.length).length = u.length := by rw [List.length_take, List.length_drop]; omega
    obtain ⟨ea, eb⟩ := List.append_inj sp lk.symm
    refine ⟨s + u.length, ⟨m1, by omega, ?_⟩, m2, h2, ?_⟩
    · rw [k, ← ea]; exact hu
    · rw [← eb]; exact hv
  · rintro ⟨m, ⟨h1, h2, h3⟩, h4, h5, h6⟩
    refine ⟨by omega, h5, (hU _).mpr ⟨_, _, take_drop_split w h1 h4, h3, h6⟩⟩
theorem cut_congr {S T : List α → Prop} (h : ∀ w, S w ↔ T w) {w : List α} {s e : Nat} : Cut S w s e ↔ Cut T w s e := and_congr_right fun _ => and_congr_right fun _ => h _
theorem cut_or {S T : List α → Prop} {w : List α} {s e : Nat} : Cut (fun u => S u ∨ T u) w s e ↔ Cut S w s e ∨ Cut T w s e := by
  constructor
  · rintro ⟨h1, h2, h | h⟩
    · exact .inl ⟨h1, h2, h⟩
    · exact .inr ⟨h1, h2, h⟩
  · rintro (⟨h1, h2, h⟩ | ⟨h1, h2, h⟩)
    · exact ⟨h1, h2, .inl h⟩
    · exact ⟨h1, h2, .inr h⟩
/-- steps from place to place -/
inductive Steps (R : Nat → Nat → Prop) : Nat → Nat → Prop
  | refl (s : Nat) : Steps R s s
  | cons {s m e : Nat} : R s m → Steps R m e → Steps R s e
theorem Steps.snoc {R : Nat → Nat → Prop} {s m e : Nat} (h : Steps R s m) (k : R m e) : Steps R s e := by
  induction h with
  | refl s => exact .cons k (.refl _)
  | cons a _ ih => exact .cons a (ih k)
theorem cut_star {S : List α → Prop} {w : List α} {s e : Nat} (hs : s ≤ w.length) : Cut (Star S) w s e ↔ Steps (Cut S w) s e := by
  constructor
  · rintro ⟨h1, h2, h3⟩
    have gen : ∀ (z : List α), Star S z → ∀ s, s ≤ e → (w.drop s).take (e - s) = z → Steps (Cut S w) s e := by
      intro z hz
      induction hz with
      | nil =>
        intro s h1 h3
        have : s = e ∧ e ≤ w.length := cut_nil.mp ⟨h1, h2, h3⟩
        rw [this.1]; exact .refl _
      | @cons u v hu hv ih =>
        intro s h1 h3
        obtain ⟨m, c1, c2⟩ := (cut_cat (U := fun z => z = u ++ v) (S := fun z => z = u) (T := fun z => z = v) (fun z => ⟨fun h => ⟨u, v, h, rfl, rfl⟩, fun ⟨_, _, h, a, b⟩ => by rw [h, a, b]⟩)).mp ⟨h1, h2, h3⟩
        exact .cons ⟨c1.1, c1.2.1, by have := c1.2.2; rw [this]; exact hu⟩ (ih m c2.1 c2.2.2)
    exact gen _ h3 s h1 rfl
  · intro h
    induction h with
    | refl s => exact ⟨Nat.le_refl _, hs, by rw [Nat.sub_self, List.take_zero]; exact .nil⟩
    | @cons s m e c _ ih =>
      have := ih c.2.1
      refine ⟨Nat.le_trans c.1 this.1, this.2.1, ?_⟩
      rw [take_drop_split w c.1 this.1]
      exact .cons c.2.2 this.2.2

/-- the ends that a part may lead to, from starts -/
def Ends (p : Pat α) (w : List α) (S E : List Nat) : Prop := E.Nodup ∧ ∀ e, e ∈ E ↔ ∃ s, s ∈ S ∧ Cut (Lang p) w s e
def Places (w : List α) (S : List Nat) : Prop := S.Nodup ∧ ∀ s, s ∈ S → s ≤ w.length
theorem Ends.places {p : Pat α} {w : List α} {S E : List Nat} (h : Ends p w S E) : Places w E :=
  ⟨h.1, fun e he => by obtain ⟨s, _, c⟩ := (h.2 e).mp he; exact c.2.1⟩
theorem nodup_len : ∀ (n : Nat) (S : List Nat), S.Nodup → (∀ s, s ∈ S → s < n) → S.length ≤ n
  | 0, S, _, h => by
    cases S with
    | nil => exact Nat.le_refl _
    | cons s S => exact absurd (h s List.mem_cons_self) (Nat.not_lt_zero _)
  | n + 1, S, nd, h => by
    have h1 := nodup_len n (S.erase n) (nd.erase n) (fun s hs => by
      have m := List.mem_of_mem_erase hs
      have ne : s ≠ n := fun e => by subst e; exact (List.Nodup.not_mem_erase nd) hs
      have := h s m
      omega)
    by_cases hm : n ∈ S
    · rw [List.length_erase_of_mem hm] at h1; omega
    · rw [List.erase_of_not_mem hm] at h1; omega
theorem Places.len {w : List α} {S : List Nat} (h : Places w S) : S.length ≤ w.length + 1 := nodup_len _ S h.1 fun s hs => Nat.lt_succ_of_le (h.2 s hs)
theorem ends_none {w : List α} {S : List Nat} (h : Places w S) : Ends .none w S S := by
  refine ⟨h.1, fun e => ⟨fun he => ⟨e, he, ?_⟩, fun ⟨s, hs, c⟩ => ?_⟩⟩
  · exact (cut_congr (fun w => by rw [Lang])).mpr (cut_nil.mpr ⟨rfl, h.2 e he⟩)
  · have := cut_nil.mp ((cut_congr (fun w => by rw [Lang])).mp c)
    rw [← this.1]; exact hs
theorem ends_one {w : List α} {x : α} {S : List Nat} [DecidableEq α] (h : Places w S) : Ends (.one x) w S ((S.filter fun s => decide ((w.drop s).take 1 = [x])).map (· + 1)) := by
  refine ⟨?_, fun e => ?_⟩
  · have nd := List.Pairwise.filter (fun s => decide ((w.drop s).take 1 = [x])) h.1
    unfold List.Nodup
    rw [List.pairwise_map]
    exact nd.imp fun ne e => ne (Nat.succ.inj e)
  · rw [List.mem_map]
    constructor
    · rintro ⟨s, hs, rfl⟩
      rw [List.mem_filter] at hs
      exact ⟨s, hs.1, (cut_congr (fun w => by rw [Lang])).mpr (cut_one.mpr ⟨rfl, of_decide_eq_true hs.2⟩)⟩
    · rintro ⟨s, hs, c⟩
      have := cut_one.mp ((cut_congr (fun w => by rw [Lang])).mp c)
      exact ⟨s, List.mem_filter.mpr ⟨hs, decide_eq_true this.2⟩, this.1.symm⟩

/-- ends of an any, part by part -/
def EndsA (ps : List (Pat α)) (w : List α) (S E : List Nat) : Prop := E.Nodup ∧ ∀ e, e ∈ E ↔ ∃ p, p ∈ ps ∧ ∃ s, s ∈ S ∧ Cut (Lang p) w s e
theorem endsA_nil {w : List α} {S : List Nat} : EndsA [] w S [] := ⟨List.nodup_nil, fun e => by simp⟩
/-- what is new goes behind what is there -/
def more (F E : List Nat) : List Nat := F ++ E.filter fun e => decide (e ∉ F)
theorem more_nodup {F E : List Nat} (hf : F.Nodup) (he : E.Nodup) : (more F E).Nodup := by
  unfold more
  rw [List.nodup_append]
  refine ⟨hf, he.filter _, fun a ha b hb e => ?_⟩
  subst e
  exact of_decide_eq_true (List.mem_filter.mp hb).2 ha
theorem mem_more {F E : List Nat} {e : Nat} : e ∈ more F E ↔ e ∈ F ∨ e ∈ E := by
  unfold more
  rw [List.mem_append, List.mem_filter]
  constructor
  · rintro (h | ⟨h, _⟩)
    · exact .inl h
    · exact .inr h
  · rintro (h | h)
    · exact .inl h
    · by_cases hf : e ∈ F
      · exact .inl hf
      · exact .inr ⟨h, decide_eq_true hf⟩
theorem endsA_snoc {ps : List (Pat α)} {p : Pat α} {w : List α} {S F E : List Nat} (h : EndsA ps w S F) (k : Ends p w S E) : EndsA (ps ++ [p]) w S (more F E) := by
  refine ⟨more_nodup h.1 k.1, fun e => ?_⟩
  rw [mem_more, h.2, k.2]
  constructor
  · rintro (⟨q, hq, r⟩ | r)
    · exact ⟨q, List.mem_append_left _ hq, r⟩
    · exact ⟨p, List.mem_append_right _ List.mem_cons_self, r⟩
  · rintro ⟨q, hq, r⟩
    rcases List.mem_append.mp hq with hq | hq
    · exact .inl ⟨q, hq, r⟩
    · cases List.mem_singleton.mp hq; exact .inr r
theorem ends_any {ps : List (Pat α)} {w : List α} {S E : List Nat} (h : EndsA ps w S E) : Ends (.any ps) w S E := by
  refine ⟨h.1, fun e => ?_⟩
  rw [h.2]
  constructor
  · rintro ⟨p, hp, s, hs, c⟩
    exact ⟨s, hs, c.1, c.2.1, by rw [Lang]; exact LAny_mem.mpr ⟨p, hp, c.2.2⟩⟩
  · rintro ⟨s, hs, c⟩
    have := c.2.2
    rw [Lang] at this
    obtain ⟨p, hp, l⟩ := LAny_mem.mp this
    exact ⟨p, hp, s, hs, c.1, c.2.1, l⟩
/-- ends of a row -/
def EndsR (ps : List (Pat α)) (w : List α) (S E : List Nat) : Prop := E.Nodup ∧ ∀ e, e ∈ E ↔ ∃ s, s ∈ S ∧ Cut (LRow ps) w s e
theorem endsR_nil {w : List α} {S : List Nat} (h : Places w S) : EndsR [] w S S := by
  refine ⟨h.1, fun e => ⟨fun he => ⟨e, he, ?_⟩, fun ⟨s, hs, c⟩ => ?_⟩⟩
  · exact (cut_congr (fun w => by rw [LRow])).mpr (cut_nil.mpr ⟨rfl, h.2 e he⟩)
  · have := cut_nil.mp ((cut_congr (fun w => by rw [LRow])).mp c)
    rw [← this.1]; exact hs
theorem EndsR.places {ps : List (Pat α)} {w : List α} {S E : List Nat} (h : EndsR ps w S E) : Places w E :=
  ⟨h.1, fun e he => by obtain ⟨s, _, c⟩ := (h.2 e).mp he; exact c.2.1⟩
theorem LRow_snoc_iff : ∀ (ps : List (Pat α)) (p : Pat α) (w : List α), LRow (ps ++ [p]) w ↔ ∃ u v, w = u ++ v ∧ LRow ps u ∧ Lang p v
  | [], p, w => by
    rw [List.nil_append, LRow]
    constructor
    · rintro ⟨u, v, e, hu, hv⟩
      rw [LRow] at hv
      exact ⟨[], u, by rw [e, hv, List.append_nil, List.nil_append], by rw [LRow], hu⟩
    · rintro ⟨u, v, e, hu, hv⟩
      rw [LRow] at hu
      exact ⟨v, [], by rw [e, hu, List.append_nil, List.nil_append], hv, by rw [LRow]⟩
  | q :: ps, p, w => by
    rw [List.cons_append, LRow]
    constructor
    · rintro ⟨u, v, e, hu, hv⟩
      obtain ⟨a, b, e2, ha, hb⟩ := (LRow_snoc_iff ps p v).mp hv
      exact ⟨u ++ a, b, by rw [e, e2, List.append_assoc], by rw [LRow]; exact ⟨u, a, rfl, hu, ha⟩, hb⟩
    · rintro ⟨u, v, e, hu, hv⟩
      rw [LRow] at hu
      obtain ⟨a, b, e2, ha, hb⟩ := hu
      exact ⟨a, b ++ v, by rw [e, e2, List.append_assoc], ha, (LRow_snoc_iff ps p _).mpr ⟨b, v, rfl, hb, hv⟩⟩
theorem endsR_snoc {ps : List (Pat α)} {p : Pat α} {w : List α} {S F E : List Nat} (h : EndsR ps w S F) (k : Ends p w F E) : EndsR (ps ++ [p]) w S E := by
  refine ⟨k.1, fun e => ?_⟩
  rw [k.2]
  constructor
  · rintro ⟨m, hm, c⟩
    obtain ⟨s, hs, c1⟩ := (h.2 m).mp hm
    exact ⟨s, hs, (cut_cat (LRow_snoc_iff ps p)).mpr ⟨m, c1, c⟩⟩
  · rintro ⟨s, hs, c⟩
    obtain ⟨m, c1, c2⟩ := (cut_cat (LRow_snoc_iff ps p)).mp c
    exact ⟨m, (h.2 m).mpr ⟨s, hs, c1⟩, c2⟩
theorem ends_row {ps : List (Pat α)} {w : List α} {S E : List Nat} (h : EndsR ps w S E) : Ends (.row ps) w S E :=
  ⟨h.1, fun e => (h.2 e).trans (exists_congr fun s => and_congr_right fun _ => cut_congr (fun w => by rw [Lang]))⟩
theorem ends_maybe {p : Pat α} {w : List α} {S E : List Nat} (hS : Places w S) (h : Ends p w S E) : Ends (.maybe p) w S (more E S) := by
  refine ⟨more_nodup h.1 hS.1, fun e => ?_⟩
  rw [mem_more, h.2]
  have key : ∀ s, Cut (Lang (.maybe p)) w s e ↔ Cut (fun u => u = []) w s e ∨ Cut (Lang p) w s e := fun s => (cut_congr (fun w => by rw [Lang])).trans cut_or
  constructor
  · rintro (⟨s, hs, c⟩ | hs)
    · exact ⟨s, hs, (key s).mpr (.inr c)⟩
    · exact ⟨e, hs, (key e).mpr (.inl (cut_nil.mpr ⟨rfl, hS.2 e hs⟩))⟩
  · rintro ⟨s, hs, c⟩
    rcases (key s).mp c with c | c
    · rw [← (cut_nil.mp c).1]; exact .inr hs
    · exact .inl ⟨s, hs, c⟩

/-- the search for all places that repetitions reach: B the places from which it began, F what is found, L what is new -/
structure Seek (p : Pat α) (w : List α) (B F L : List Nat) : Prop where
  pl : Places w F
  base : ∀ b, b ∈ B → b ∈ F
  from_ : ∀ f, f ∈ F → ∃ b, b ∈ B ∧ Steps (Cut (Lang p) w) b f
  sub : ∀ l, l ∈ L → l ∈ F
  nd : L.Nodup
  shut : ∀ f, f ∈ F → f ∉ L → ∀ e, Cut (Lang p) w f e → e ∈ F
theorem Seek.start {p : Pat α} {w : List α} {F : List Nat} (h : Places w F) : Seek p w F F F :=
  ⟨h, fun _ h => h, fun f hf => ⟨f, hf, .refl f⟩, fun _ h => h, h.1, fun _ h k => absurd h k⟩
theorem Seek.start' {p : Pat α} {w : List α} {S E : List Nat} (hS : Places w S) (h : Ends p w S E) : Seek p w S (more E S) (more E S) := by
  refine ⟨⟨more_nodup h.1 hS.1, fun s hs => ?_⟩, fun b hb => mem_more.mpr (.inr hb), fun f hf => ?_, fun _ h => h, more_nodup h.1 hS.1, fun _ h k => absurd h k⟩
  · rcases mem_more.mp hs with hs | hs
    · exact h.places.2 s hs
    · exact hS.2 s hs
  · rcases mem_more.mp hf with hf | hf
    · obtain ⟨s, hs, c⟩ := (h.2 f).mp hf
      exact ⟨s, hs, .cons c (.refl _)⟩
    · exact ⟨f, hf, .refl _⟩
theorem Seek.turn {p : Pat α} {w : List α} {B F L E : List Nat} (k : Seek p w B F L) (h : Ends p w L E) : Seek p w B (more F E) (E.filter fun e => decide (e ∉ F)) := by
  refine ⟨⟨more_nodup k.pl.1 h.1, fun s hs => ?_⟩, fun b hb => mem_more.mpr (.inl (k.base b hb)), fun f hf => ?_, fun l hl => mem_more.mpr (.inr (List.mem_filter.mp hl).1), h.1.filter _, fun f hf hn e c => ?_⟩
  · rcases mem_more.mp hs with hs | hs
    · exact k.pl.2 s hs
    · exact h.places.2 s hs
  · rcases mem_more.mp hf with hf | hf
    · exact k.from_ f hf
    · obtain ⟨l, hl, c⟩ := (h.2 f).mp hf
      obtain ⟨b, hb, st⟩ := k.from_ l (k.sub l hl)
      exact ⟨b, hb, st.snoc c⟩
  · have hF : f ∈ F := by
      rcases mem_more.mp hf with hf | hf
      · exact hf
      · by_cases q : f ∈ F
        · exact q
        · exact absurd (List.mem_filter.mpr ⟨hf, decide_eq_true q⟩) hn
    by_cases hl : f ∈ L
    · exact mem_more.mpr (.inr ((h.2 e).mpr ⟨f, hl, c⟩))
    · exact mem_more.mpr (.inl (k.shut f hF hl e c))
theorem Seek.done {p : Pat α} {w : List α} {B F : List Nat} (k : Seek p w B F []) : ∀ e, e ∈ F ↔ ∃ b, b ∈ B ∧ Steps (Cut (Lang p) w) b e := by
  have shut := k.shut
  have gen : ∀ (s e : Nat), Steps (Cut (Lang p) w) s e → s ∈ F → e ∈ F := by
    intro s e st
    induction st with
    | refl s => exact fun h => h
    | @cons s m e c _ ih => exact fun h => ih (shut s h (by simp) m c)
  exact fun e => ⟨k.from_ e, fun ⟨b, hb, st⟩ => gen b e st (k.base b hb)⟩
theorem ends_many {p : Pat α} {w : List α} {S F : List Nat} (hS : Places w S) (k : Seek p w S F []) : Ends (.many p) w S F := by
  refine ⟨k.pl.1, fun e => (k.done e).trans (exists_congr fun s => and_congr_right fun hs => ?_)⟩
  rw [← cut_star (hS.2 s hs)]
  exact cut_congr (fun w => by rw [Lang])
theorem ends_some {p : Pat α} {w : List α} {S E F : List Nat} (h : Ends p w S E) (k : Seek p w E F []) : Ends (.some p) w S F := by
  refine ⟨k.pl.1, fun e => ?_⟩
  have key : ∀ w, Lang (.some p) w ↔ ∃ u v, w = u ++ v ∧ Lang p u ∧ Star (Lang p) v := fun w => by rw [Lang]
  rw [k.done e]
  constructor
  · rintro ⟨b, hb, st⟩
    obtain ⟨s, hs, c⟩ := (h.2 b).mp hb
    exact ⟨s, hs, (cut_cat key).mpr ⟨b, c, (cut_star c.2.1).mpr st⟩⟩
  · rintro ⟨s, hs, c⟩
    obtain ⟨m, c1, c2⟩ := (cut_cat key).mp c
    exact ⟨m, (h.2 m).mpr ⟨s, hs, c1⟩, (cut_star c1.2.1).mp c2⟩
/-- the whole word -/
theorem ends_whole {p : Pat α} {w : List α} {E : List Nat} (h : Ends p w [0] E) : w.length ∈ E ↔ Lang p w := by
  rw [h.2]
  constructor
  · rintro ⟨s, hs, c⟩
    cases List.mem_singleton.mp hs
    have := c.2.2
    rwa [Nat.sub_zero, List.drop_zero, List.take_length] at this
  · intro hl
    exact ⟨0, List.mem_singleton.mpr rfl, Nat.zero_le _, Nat.le_refl _, by rw [Nat.sub_zero, List.drop_zero, List.take_length]; exact hl⟩

/-! ### repetitions -/
def Pow (S : List α → Prop) : Nat → List α → Prop
  | 0, w => w = []
  | k + 1, w => ∃ u v, w = u ++ v ∧ Pow S k u ∧ S v
theorem Pow.star {S : List α → Prop} : ∀ {k : Nat} {w : List α}, Pow S k w → Star S w
  | 0, w, h => by rw [show w = [] from h]; exact .nil
  | k + 1, w, ⟨u, v, e, hu, hv⟩ => by rw [e]; exact (Pow.star hu).app (.one hv)
theorem Pow.some {S : List α → Prop} : ∀ {k : Nat} {w : List α}, Pow S (k + 1) w → ∃ u v, w = u ++ v ∧ S u ∧ Star S v
  | 0, w, ⟨u, v, e, hu, hv⟩ => ⟨v, [], by rw [e, show u = [] from hu, List.append_nil, List.nil_append], hv, .nil⟩
  | k + 1, w, ⟨u, v, e, hu, hv⟩ => by
    obtain ⟨a, b, e2, ha, hb⟩ := Pow.some (k := k) hu
    exact ⟨a, b ++ v, by rw [e, e2, List.append_assoc], ha, hb.app (.one hv)⟩
theorem Pow.maybe {S : List α → Prop} {k : Nat} {w : List α} (hk : k < 2) (h : Pow S k w) : w = [] ∨ S w := by
  match k, hk, h with
  | 0, _, h => exact .inl h
  | 1, _, ⟨u, v, e, hu, hv⟩ => exact .inr (by rw [e, show u = [] from hu, List.nil_append]; exact hv)

end
end FF

end
section
namespace FW
open PySem L2 FF

/-! ### the text by places -/
def topS (i : Nat) : Stmt := PySem.Challenge.pw_formferry_k05_whole_fits_is_the_meaning.main.body.getD i (.Pass ⟨0, 0, 0, 0⟩)
abbrev sPInit : Stmt := inClass (topS 1) 0
abbrev sPSigns : Stmt := inClass (topS 1) 1
abbrev sPBare : Stmt := inClass (topS 1) 2
abbrev sPFirsts : Stmt := inClass (topS 1) 3
abbrev sPLasts : Stmt := inClass (topS 1) 4
abbrev sPAdd : Stmt := inClass (topS 1) 5
abbrev sOInit : Stmt := inClass (topS 2) 0
abbrev sOSigns : Stmt := inClass (topS 2) 1
abbrev sOBare : Stmt := inClass (topS 2) 2
abbrev sOFirsts : Stmt := inClass (topS 2) 3
abbrev sOLasts : Stmt := inClass (topS 2) 4
abbrev sLay : Stmt := topS 3
abbrev sRBare : Stmt := inClass (topS 4) 0
abbrev sRFirsts : Stmt := inClass (topS 4) 1
abbrev sRLasts : Stmt := inClass (topS 4) 2
abbrev sRAdd : Stmt := inClass (topS 4) 3
abbrev sABare : Stmt := inClass (topS 5) 0
abbrev sAFirsts : Stmt := inClass (topS 5) 1
abbrev sALasts : Stmt := inClass (topS 5) 2
abbrev sMBare : Stmt := inClass (topS 6) 0
abbrev sSAdd : Stmt := inClass (topS 7) 0
abbrev sYBare : Stmt := inClass (topS 8) 0
abbrev sPatOf : Stmt := topS 9
abbrev sSigns : Stmt := topS 10
abbrev sBare : Stmt := topS 11
abbrev sInOrder : Stmt := topS 12
abbrev sFirsts : Stmt := topS 13
abbrev sLasts : Stmt := topS 14
abbrev sNexts : Stmt := topS 15
abbrev sFits : Stmt := topS 16
abbrev sCellAt : Stmt := topS 18
abbrev sMix : Stmt := topS 19
abbrev sJoined : Stmt := topS 20
abbrev sTwice : Stmt := topS 21
abbrev sPattern : Stmt := topS 22
abbrev sDrawnSigns : Stmt := topS 23
abbrev sGrown : Stmt := topS 24
abbrev sDraws : Stmt := topS 25
abbrev sDrawn : Stmt := topS 26
abbrev sEnds : Stmt := topS 27
abbrev sLaw : Stmt := topS 28

/-! ### readings made weaker, and by cases -/
section
variable {X : Cx} {e : Expr} {st : Stmt} {sts : List Stmt}
theorem PE_imp {t t' : TE} (h : PE X e t) (i : ∀ σ H Q, t' σ H Q → t σ H Q) : PE X e t' := ⟨fun pins s σ H Q I q => h.run pins s σ H Q I (i σ H Q q)⟩
theorem PT_imp {t t' : TT} (h : PT X e t) (i : ∀ σ H Q, t' σ H Q → t σ H Q) : PT X e t' := ⟨fun pins s σ H Q I q => h.run pins s σ H Q I (i σ H Q q)⟩
end

/-! ### heaps -/
theorem same_new {H : Hp} {p : Addr} (h : H p = none) (o : HO) : Same H (upd H p o) := fun b u q => by rw [upd_ne (ne_of_none q h)]; exact q
theorem same_upd {H H1 : Hp} {p : Addr} (s : Same H H1) (h : H p = none) (o : HO) : Same H (upd H1 p o) := fun b u q => by rw [upd_ne (ne_of_none q h)]; exact s b u q
/-- the heap without the things at l -/
def era (H : Hp) (l : List Addr) : Hp := fun b => if b ∈ l then none else H b
theorem era_in {H : Hp} {l : List Addr} {b : Addr} (h : b ∈ l) : era H l b = none := by unfold era; rw [if_pos h]
theorem era_out {H : Hp} {l : List Addr} {b : Addr} (h : b ∉ l) : era H l b = H b := by unfold era; rw [if_neg h]
theorem era_same (H : Hp) (l : List Addr) : Same (era H l) H := fun b o q => by
  by_cases h : b ∈ l
  · rw [era_in h] at q; cases q
  · rw [era_out h] at q; exact q
theorem era_mono {H H' : Hp} (l : List Addr) (s : Same H H') : Same (era H l) (era H' l) := fun b o q => by
  by_cases h : b ∈ l
  · rw [era_in h] at q; cases q
  · rw [era_out h] at q ⊢; exact s b o q
theorem era_free {H : Hp} {l : List Addr} {b : Addr} (h : H b = none) : era H l b = none := by
  by_cases m : b ∈ l
  · exact era_in m
  · rw [era_out m]; exact h
theorem era_upd_in {H : Hp} {l : List Addr} {b : Addr} {o : HO} (h : b ∈ l) : era (upd H b o) l = era H l := by
  funext c
  by_cases m : c ∈ l
  · rw [era_in m, era_in m]
  · rw [era_out m, era_out m, upd_ne (fun e => m (by rw [e]; exact h))]
theorem era_some {H : Hp} {l : List Addr} {b : Addr} {o : HO} (h : era H l b = some o) : H b = some o ∧ b ∉ l := by
  by_cases m : b ∈ l
  · rw [era_in m] at h; cases h
  · rw [era_out m] at h; exact ⟨h, m⟩
/-- a new thing beside l -/
theorem same_era_new {H H1 : Hp} {l : List Addr} {p : Addr} (s : Same (era H l) (era H1 l)) (h : H1 p = none) (o : HO) : Same (era H l) (era (upd H1 p o) l) := fun b u q => by
  have := s b u q
  obtain ⟨q1, m⟩ := era_some this
  rw [era_out m, upd_ne (ne_of_none q1 h)]
  exact q1
theorem same_era_of {H H1 H2 : Hp} {l : List Addr} (s : Same (era H l) (era H1 l)) (k : Same H1 H2) : Same (era H l) (era H2 l) := s.trans (era_mono l k)

/-! ### kinds of patterns -/
abbrev P0 := Pat Str
inductive Kd where
  | pat | one | row | any | maybe | some | many
def kd : P0 → Kd
  | .none => .pat
  | .one _ => .one
  | .row _ => .row
  | .any _ => .any
  | .maybe _ => .maybe
  | .many _ => .many
  | .some _ => .some
def flds (p : P0) (l : Addr) : List (Str × V) := match p with
  | .one x => putF "sign" (.str x) (putF "within" (.ref l) [])
  | _ => putF "within" (.ref l) []
theorem sw : ¬ (("within" : Str) = "sign") := by decide +kernel
theorem flds_within (p : P0) (l : Addr) : (flds p l).lookup ("within" : Str) = some (.ref l) := by
  cases p <;> unfold flds <;> simp only [lookup_putF, if_pos, if_neg sw]
theorem flds_sign (x : Str) (l : Addr) : (flds (.one x) l).lookup ("sign" : Str) = some (.str x) := by
  unfold flds
  rw [lookup_putF, if_pos rfl]
theorem flds_no (p : P0) (l : Addr) {m : Str} (h1 : ¬ m = "within") (h2 : ¬ m = "sign") : (flds p l).lookup m = none := by
  cases p <;> unfold flds <;> simp only [lookup_putF, if_neg h1, if_neg h2] <;> rfl

/-! ### the objects that stand for a pattern -/
mutual
inductive ObjAt (C : Kd → Addr) (H : Hp) : Addr → P0 → Prop
  | mk {a dx l : Addr} {as : List Addr} {p : P0} : H a = some (.ins (C (kd p)) dx (flds p l)) → H l = some (.lst (as.map V.ref)) → ObjsAt C H as (kids p) → ObjAt C H a p
inductive ObjsAt (C : Kd → Addr) (H : Hp) : List Addr → List P0 → Prop
  | nil : ObjsAt C H [] []
  | cons {a : Addr} {as : List Addr} {p : P0} {ps : List P0} : ObjAt C H a p → ObjsAt C H as ps → ObjsAt C H (a :: as) (p :: ps)
end
mutual
theorem ObjAt.mono {C : Kd → Addr} {H H' : Hp} (s : Same H H') : ∀ {a : Addr} {p : P0}, ObjAt C H a p → ObjAt C H' a p
  | _, _, .mk h1 h2 h3 => .mk (s _ _ h1) (s _ _ h2) (ObjsAt.mono s h3)
theorem ObjsAt.mono {C : Kd → Addr} {H H' : Hp} (s : Same H H') : ∀ {as : List Addr} {ps : List P0}, ObjsAt C H as ps → ObjsAt C H' as ps
  | _, _, .nil => .nil
  | _, _, .cons h1 h2 => .cons (ObjAt.mono s h1) (ObjsAt.mono s h2)
end
theorem ObjsAt.len {C : Kd → Addr} {H : Hp} : ∀ {as : List Addr} {ps : List P0}, ObjsAt C H as ps → as.length = ps.length
  | _, _, .nil => rfl
  | _, _, .cons _ h => congrArg (· + 1) h.len
theorem ObjsAt.at_ {C : Kd → Addr} {H : Hp} : ∀ {as : List Addr} {ps : List P0} {i : Nat} {a : Addr}, ObjsAt C H as ps → as[i]? = some a → ∃ p, ps[i]? = some p ∧ ObjAt C H a p
  | _, _, i, a, .nil, e => by simp at e
  | _, _, 0, a, .cons h _, e => by
    have e : _ = a := Option.some.inj e
    subst e
    exact ⟨_, rfl, h⟩
  | _, _, i + 1, a, .cons _ h, e => by
    obtain ⟨p, h1, h2⟩ := h.at_ (i := i) (a := a) e
    exact ⟨p, h1, h2⟩
theorem ObjsAt.snoc {C : Kd → Addr} {H : Hp} : ∀ {as : List Addr} {ps : List P0} {a : Addr} {p : P0}, ObjsAt C H as ps → ObjAt C H a p → ObjsAt C H (as ++ [a]) (ps ++ [p])
  | _, _, _, _, .nil, h => .cons h .nil
  | _, _, _, _, .cons h1 h2, h => .cons h1 (h2.snoc h)
/-- an item of a list of addresses -/
theorem ref_at {as : List Addr} {i : Nat} {x : V} (h : (as.map V.ref)[i]? = some x) : ∃ a, as[i]? = some a ∧ x = .ref a := by
  rw [List.getElem?_map] at h
  cases e : as[i]? with
  | none => rw [e] at h; cases h
  | some a => rw [e] at h; exact ⟨a, rfl, (Option.some.inj h).symm⟩
theorem str_at {xs : List Str} {i : Nat} {x : V} (h : (xs.map V.str)[i]? = some x) : ∃ a, xs[i]? = some a ∧ x = .str a := by
  rw [List.getElem?_map] at h
  cases e : xs[i]? with
  | none => rw [e] at h; cases h
  | some a => rw [e] at h; exact ⟨a, rfl, (Option.some.inj h).symm⟩
theorem int_at {xs : List Int} {i : Nat} {x : V} (h : (xs.map V.int)[i]? = some x) : ∃ a, xs[i]? = some a ∧ x = .int a := by
  rw [List.getElem?_map] at h
  cases e : xs[i]? with
  | none => rw [e] at h; cases h
  | some a => rw [e] at h; exact ⟨a, rfl, (Option.some.inj h).symm⟩
theorem take_snoc {α : Type} {l : List α} {i : Nat} {x : α} (h : l[i]? = some x) : l.take (i + 1) = l.take i ++ [x] := by
  rw [List.take_add_one, h]; rfl
theorem drop_cons {α : Type} {l : List α} {i : Nat} {x : α} (h : l[i]? = some x) : l.drop i = x :: l.drop (i + 1) := by
  obtain ⟨hi, e⟩ := List.getElem?_eq_some_iff.mp h
  rw [List.drop_eq_getElem_cons hi, e]

/-! ### the tuples that tell a pattern -/
mutual
inductive PatAt (H : Hp) : V → P0 → Prop
  | none {a : Addr} : H a = some (.tup [.str "none"]) → PatAt H (.ref a) .none
  | one {a : Addr} {x : Str} : H a = some (.tup [.str "one", .str x]) → PatAt H (.ref a) (.one x)
  | row {a l : Addr} {vs : List V} {ps : List P0} : H a = some (.tup [.str "row", .ref l]) → H l = some (.lst vs) → PatsAt H vs ps → PatAt H (.ref a) (.row ps)
  | any {a l : Addr} {vs : List V} {ps : List P0} : H a = some (.tup [.str "any", .ref l]) → H l = some (.lst vs) → PatsAt H vs ps → PatAt H (.ref a) (.any ps)
  | maybe {a : Addr} {v : V} {p : P0} : H a = some (.tup [.str "maybe", v]) → PatAt H v p → PatAt H (.ref a) (.maybe p)
  | many {a : Addr} {v : V} {p : P0} : H a = some (.tup [.str "many", v]) → PatAt H v p → PatAt H (.ref a) (.many p)
  | some {a : Addr} {v : V} {p : P0} : H a = some (.tup [.str "some", v]) → PatAt H v p → PatAt H (.ref a) (.some p)
inductive PatsAt (H : Hp) : List V → List P0 → Prop
  | nil : PatsAt H [] []
  | cons {v : V} {vs : List V} {p : P0} {ps : List P0} : PatAt H v p → PatsAt H vs ps → PatsAt H (v :: vs) (p :: ps)
end
mutual
theorem PatAt.mono {H H' : Hp} (s : Same H H') : ∀ {v : V} {p : P0}, PatAt H v p → PatAt H' v p
  | _, _, .none h => .none (s _ _ h)
  | _, _, .one h => .one (s _ _ h)
  | _, _, .row h1 h2 h3 => .row (s _ _ h1) (s _ _ h2) (PatsAt.mono s h3)
  | _, _, .any h1 h2 h3 => .any (s _ _ h1) (s _ _ h2) (PatsAt.mono s h3)
  | _, _, .maybe h1 h2 => .maybe (s _ _ h1) (PatAt.mono s h2)
  | _, _, .many h1 h2 => .many (s _ _ h1) (PatAt.mono s h2)
  | _, _, .some h1 h2 => .some (s _ _ h1) (PatAt.mono s h2)
theorem PatsAt.mono {H H' : Hp} (s : Same H H') : ∀ {vs : List V} {ps : List P0}, PatsAt H vs ps → PatsAt H' vs ps
  | _, _, .nil => .nil
  | _, _, .cons h1 h2 => .cons (PatAt.mono s h1) (PatsAt.mono s h2)
end
theorem PatsAt.len {H : Hp} : ∀ {vs : List V} {ps : List P0}, PatsAt H vs ps → vs.length = ps.length
  | _, _, .nil => rfl
  | _, _, .cons _ h => congrArg (· + 1) h.len
theorem PatsAt.at_ {H : Hp} : ∀ {vs : List V} {ps : List P0} {i : Nat} {v : V}, PatsAt H vs ps → vs[i]? = some v → ∃ p, ps[i]? = some p ∧ PatAt H v p
  | _, _, i, a, .nil, e => by simp at e
  | _, _, 0, a, .cons h _, e => by
    have e : _ = a := Option.some.inj e
    subst e
    exact ⟨_, rfl, h⟩
  | _, _, i + 1, a, .cons _ h, e => by
    obtain ⟨p, h1, h2⟩ := h.at_ (i := i) (v := a) e
    exact ⟨p, h1, h2⟩
theorem PatsAt.app {H : Hp} : ∀ {vs us : List V} {ps qs : List P0}, PatsAt H vs ps → PatsAt H us qs → PatsAt H (vs ++ us) (ps ++ qs)
  | _, _, _, _, .nil, h => h
  | _, _, _, _, .cons h1 h2, h => .cons h1 (h2.app h)
theorem PatsAt.take {H : Hp} : ∀ {vs : List V} {ps : List P0} (n : Nat), PatsAt H vs ps → PatsAt H (vs.take n) (ps.take n)
  | _, _, 0, _ => .nil
  | _, _, _ + 1, .nil => .nil
  | _, _, n + 1, .cons h1 h2 => .cons h1 (h2.take n)
theorem PatsAt.drop {H : Hp} : ∀ {vs : List V} {ps : List P0} (n : Nat), PatsAt H vs ps → PatsAt H (vs.drop n) (ps.drop n)
  | _, _, 0, h => h
  | _, _, _ + 1, .nil => .nil
  | _, _, n + 1, .cons _ h2 => h2.drop n
/-- the tuple's address -/
theorem PatAt.adr {H : Hp} {v : V} {p : P0} (h : PatAt H v p) : ∃ a, v = .ref a := by cases h <;> exact ⟨_, rfl⟩

/-! ### further operators -/
section
variable {X : Cx}
/-- xs != [] -/
theorem op_neE (hu : X.A.units < cLine) : OpR X (compareOp .NotEq) (fun x y H Q => ∃ a b xs, x = V.ref a ∧ y = V.ref b ∧ SqL X.K H a xs ∧ SqL X.K H b [] ∧ Q (.bl (!xs.isEmpty)) H) := by
  intro pins s σ H x y v u Q I rx ry h
  obtain ⟨a, b, xs, rfl, rfl, ha, hb, q⟩ := h
  cases rx
  cases ry
  obtain ⟨its, r, pl, _⟩ := I.list ha
  obtain ⟨its2, r2, pl2, _⟩ := I.list hb
  cases r2
  cases r with
  | nil =>
    refine SeqAt.RcNeAt.lists (e := fun _ => true) pl.isList pl2.isList rfl hu (fun j h1 _ => absurd h1 (by simp)) _ _ _ _ ?_
    exact ⟨.bl false, H, I, rfl, q⟩
  | cons r1 r2 =>
    refine SeqAt.RcNeAt.lists_lengths pl.isList pl2.isList (by simp) hu _ _ _ _ ?_
    exact ⟨.bl true, H, I, rfl, q⟩
/-- == of two lists of flat things -/
def eqVs : List V → List V → Bool
  | [], [] => true
  | x :: xs, y :: ys => eqV x y && eqVs xs ys
  | _, _ => false
theorem op_eq1 (hu : X.A.units < cLine) : OpR X (compareOp .Eq) (fun x y H Q => ∃ a b xs z, x = V.ref a ∧ y = V.ref b ∧ SqL X.K H a (xs.map V.str) ∧ SqL X.K H b [V.str z] ∧ Q (.bl (decide (xs = [z]))) H) := by
  intro pins s σ H x y v u Q I rx ry h
  obtain ⟨a, b, xs, z, rfl, rfl, ha, hb, q⟩ := h
  cases rx
  cases ry
  obtain ⟨its, r, pl, _⟩ := I.list ha
  obtain ⟨its2, r2, pl2, _⟩ := I.list hb
  obtain ⟨u2, rfl, ru2⟩ := Vals.one r2
  have hl := r.length
  rw [List.length_map] at hl
  match xs, hl, r, q with
  | [c], hl, r, q =>
    obtain ⟨u1, rfl, ru1⟩ := Vals.one r
    have key : SeqAt.EqAt X.A.in1 s u1 u2 (eqV (.str c) (.str z)) := eqAt_V ru1 ru2 rfl rfl
    refine SeqAt.RcAt.lists (e := fun _ => eqV (.str c) (.str z)) pl.isList pl2.isList rfl hu (fun j h1 h2 => ?_) _ _ _ _ ?_
    · have : j = 0 := by simpa using h1
      subst this
      exact key
    · refine ⟨.bl _, H, I, ?_, q⟩
      have e1 : decide (([c] : List Str) = [z]) = eqV (.str c) (.str z) := by
        by_cases h : c = z
        · subst h; simp [eqV]
        · simp [eqV, h]
      rw [e1]
      simp
      rfl
  | [], hl, r, q =>
    refine SeqAt.RcAt.lists_lengths pl.isList pl2.isList (by simp [← hl]) hu _ _ _ _ ?_
    exact ⟨.bl false, H, I, rfl, q⟩
  | c :: d :: xs, hl, r, q =>
    refine SeqAt.RcAt.lists_lengths pl.isList pl2.isList (by simp [← hl]) hu _ _ _ _ ?_
    have e1 : decide (c :: d :: xs = [z]) = false := by simp
    rw [e1] at q
    exact ⟨.bl false, H, I, rfl, q⟩
end

/-! ### C.m(e, ..), m a plain def of the class C -/
structure ClsFn (K : PySem.W.Frag) (C : Addr) (m : Str) (f : Addr) : Prop where
  rd : PySem.W.readsIn K C (.type "type") = true
  ga : PySem.W.specialIn K (.ref C) "__getattribute__" = some (some (.builtin "type.__getattribute__"))
  at_ : PySem.W.findCls K (.ref C) (.type "type") m = some (.val (.ref f))
  kp : PySem.W.keepIn K (.ref f) = true
section
variable {X : Cx} {CX : CXT} {k : Nat} {f C : Addr} {fd : FuncData} {ps : List Str} {sp : Sp} {dvs : List V} {ds : List Value} {E : XK} {x m : Str} {p pos apos : Pos} {e o : Expr} {es : List Expr} {ta : TE} {t : TA}
def tCFn (C : Addr) (sp : Sp) (E : XK) (ta : TE) (t : TA) : TE := fun σ H Q => ta σ H fun x H1 => x = .ref C ∧ t σ H1 fun vs H2 => sp vs H2 Q E
theorem pe_cfn {pl : Sem Bool} (he : PE X o ta) (c : ClsFn X.K C m f) (F : FnOk X.prog X.w X.K X.mg X.base CX k f fd ps sp) (hr : Room k X.A) (hb : Binds X.K fd ps []) (hx : Passes CX X E) (ha : PA X (e :: es) t)
    (hst : starEach (e :: es) X.env = (false, eval e X.env) :: starEach es X.env := by rfl) (hpl : (backTo pos (starEach es X.env)).any (·.1) = false := by rfl)
    (ht : eval (.Call (.Attribute o m apos) (e :: es) [] pos) X.env = (do
      let ov ← eval o X.env
      standAt apos.atName
      let (f, first) ← holding [ov] (getMethod ov m pl)
      callWith pos f first (backTo pos (starEach (e :: es) X.env)) (backToKw pos (keywordEach [] X.env))) := by rfl) :
    PE X (.Call (.Attribute o m apos) (e :: es) [] pos) (tCFn C sp E ta t) := by
  refine ⟨fun pins s σ H Q I h => ?_⟩
  refine PySem.W.methodCall_KW (pl := pl) (thn (he.run pins s σ H _ I h) fun u s1 ⟨x, H1, I1, rx, ex, q⟩ => ?_) ht
  subst ex
  obtain rfl : u = Value.ref C := rx
  refine PySem.W.method_cls I1.kIn c.ga ?_
  refine ClX.getcval_ok (v := .ref f) (u := .ref f) I1 ⟨c.rd, c.ga⟩ ⟨c.at_, rfl⟩ fun s2 I2 => ?_
  refine PySem.W.callWith_K (first := []) (h₀ := X.base) I.ok.mod.kin c.kp (thn (ha.run pos pins s2 σ H1 _ I2 q) fun us s3 ⟨vs, H2, I3, r, q2⟩ => ⟨I3.kIn, ?_⟩) hst hpl
  have q3 : sp (vs ++ []) H2 Q E := by rw [List.append_nil]; exact q2
  exact run_fn (us := us) (vs := vs) F hr hb .nil hx I3 r q3
end

/-! ### o.m(..), o one of the pattern objects: the method by the object's class -/
structure Disp (P : Program) (w : World) (K : PySem.W.Frag) (mg : Str → Option Value) (base : Heap) (C : Kd → Addr) (m : Str) (n : Nat) (ps : List Str) (sp : Kd → Sp) (f : Kd → Addr) (fd : Kd → FuncData) : Prop where
  me : ∀ k, Meth K (C k) m (f k)
  bi : ∀ k, Binds K (fd k) ps []
  ok : ∀ k, FnOk P w K mg base CX0 n (f k) (fd k) ps (sp k)
section
variable {X : Cx} {n : Nat} {f C : Kd → Addr} {fd : Kd → FuncData} {ps : List Str} {sp : Kd → Sp} {x m : Str} {pos apos : Pos} {e o : Expr} {es : List Expr} {ta : TE} {t : TA}
def tDisp (C : Kd → Addr) (sp : Kd → Sp) (ta : TE) (t : TA) : TE := fun σ H Q => ta σ H fun x H1 => ∃ a p, x = .ref a ∧ ObjAt C H1 a p ∧ t σ H1 fun vs H2 => sp (kd p) (.ref a :: vs) H2 Q E0
theorem pe_disp0 {pl : Sem Bool} (he : PE X o ta) (cl : ∀ k, Cls X.K (C k)) (D : Disp X.prog X.w X.K X.mg X.base C m n ps sp f fd) (hr : Room n X.A) (h1 : ¬ m = "within") (h2 : ¬ m = "sign")
    (ht : eval (.Call (.Attribute o m apos) [] [] pos) X.env = (do
      let ov ← eval o X.env
      standAt apos.atName
      let (f, first) ← holding [ov] (getMethod ov m pl)
      callWith pos f first (backTo pos (starEach [] X.env)) (backToKw pos (keywordEach [] X.env))) := by rfl) :
    PE X (.Call (.Attribute o m apos) [] [] pos) (tDisp C sp ta tNil) := by
  refine ⟨fun pins s σ H Q I h => ?_⟩
  refine PySem.W.methodCall_KW (pl := pl) (thn (he.run pins s σ H _ I h) fun u s1 ⟨x, H1, I1, rx, a, p, ex, ob, q⟩ => ?_) ht
  subst ex
  obtain rfl : u = Value.ref a := rx
  cases ob with
  | mk ea _ _ =>
    refine getmeth_ok I1 ea (cl (kd p)) (D.me (kd p)) (flds_no p _ h1 h2) ?_
    exact PySem.W.callWith_K0 (first := [.ref a]) I1.kIn (D.me (kd p)).kp (run_fn (us := [.ref a]) (vs := [.ref a]) (D.ok (kd p)) hr (D.bi (kd p)) .nil pass0 I1 (.cons rfl .nil) q)
theorem pe_disp {pl : Sem Bool} (he : PE X o ta) (cl : ∀ k, Cls X.K (C k)) (D : Disp X.prog X.w X.K X.mg X.base C m n ps sp f fd) (hr : Room n X.A) (h1 : ¬ m = "within") (h2 : ¬ m = "sign") (ha : PA X (e :: es) t)
    (hst : starEach (e :: es) X.env = (false, eval e X.env) :: starEach es X.env := by rfl) (hpl : (backTo pos (starEach es X.env)).any (·.1) = false := by rfl)
    (ht : eval (.Call (.Attribute o m apos) (e :: es) [] pos) X.env = (do
      let ov ← eval o X.env
      standAt apos.atName
      let (f, first) ← holding [ov] (getMethod ov m pl)
      callWith pos f first (backTo pos (starEach (e :: es) X.env)) (backToKw pos (keywordEach [] X.env))) := by rfl) :
    PE X (.Call (.Attribute o m apos) (e :: es) [] pos) (tDisp C sp ta t) := by
  refine ⟨fun pins s σ H Q I h => ?_⟩
  refine PySem.W.methodCall_KW (pl := pl) (thn (he.run pins s σ H _ I h) fun u s1 ⟨x, H1, I1, rx, a, p, ex, ob, q⟩ => ?_) ht
  subst ex
  obtain rfl : u = Value.ref a := rx
  cases ob with
  | mk ea _ _ =>
    refine getmeth_ok I1 ea (cl (kd p)) (D.me (kd p)) (flds_no p _ h1 h2) ?_
    refine PySem.W.callWith_K (first := [.ref a]) (h₀ := X.base) I.ok.mod.kin (D.me (kd p)).kp (thn (ha.run pos pins s1 σ H1 _ I1 q) fun us s2 ⟨vs, H2, I2, r, q2⟩ => ⟨I2.kIn, ?_⟩) hst hpl
    have q3 : sp (kd p) (.ref a :: (vs ++ [])) H2 Q E0 := by rw [List.append_nil]; exact q2
    exact run_fn (us := .ref a :: us) (vs := .ref a :: vs) (D.ok (kd p)) hr (D.bi (kd p)) .nil pass0 I2 (.cons rfl r) q3
end

/-! ### what the walk asks of the classes and names of the top -/
structure Txt (K : PySem.W.Frag) (mg : Str → Option Value) (C : Kd → Addr) : Prop where
  cl : ∀ k, Cls K (C k)
  nW : ∀ k, NoAttr K (C k) "within"
  nS : NoAttr K (C .one) "sign"
  mgPat : mg "Pattern" = some (.ref (C .pat))
  mgOne : mg "One" = some (.ref (C .one))
  mgRow : mg "Row" = some (.ref (C .row))
  mgAny : mg "Any" = some (.ref (C .any))
  mgMaybe : mg "Maybe" = some (.ref (C .maybe))
  mgSome : mg "Some" = some (.ref (C .some))
  mgMany : mg "Many" = some (.ref (C .many))
  all_ : mg "all" = none
  any_ : mg "any" = none
  rev : mg "reversed" = none
  len : mg "len" = none
  range : mg "range" = none
  list : mg "list" = none
  sum : mg "sum" = none
  isi : mg "isinstance" = none
  bool : mg "bool" = none

/-! ### promises of the pattern's methods -/
def Fit (n : Nat) (p : P0) : Prop := depth p < n ∧ Fair p ∧ (signs p).length ≤ 1000
theorem Fit.kid {n : Nat} {p q : P0} (h : Fit (n + 1) p) (k : q ∈ kids p) : Fit n q :=
  ⟨by have := depth_kid k; have := h.1; omega, fair_kid h.2.1 k, Nat.le_trans (signs_kid k).1 h.2.2⟩
theorem Fit.len {n : Nat} {p : P0} (h : Fit n p) : (kids p).length ≤ 1000 := fair_len h.2.1
theorem Fit.zero {p : P0} (h : Fit 0 p) : False := Nat.not_lt_zero _ h.1
/-- a new list of texts -/
def spList (C : Kd → Addr) (g : P0 → List Str) (n : Nat) (k : Kd) : Sp := fun vs H Q _ => ∃ a p, vs = [.ref a] ∧ ObjAt C H a p ∧ kd p = k ∧ Fit n p ∧
  ∀ r H', Same H H' → H r = none → H' r = some (.lst ((g p).map V.str)) → Q (.ref r) H'
def spBareM (C : Kd → Addr) (n : Nat) (k : Kd) : Sp := fun vs H Q _ => ∃ a p, vs = [.ref a] ∧ ObjAt C H a p ∧ kd p = k ∧ Fit n p ∧ ∀ H', Same H H' → Q (.bl (bare p)) H'
theorem none_self {P : Program} {w : World} {K : PySem.W.Frag} {mg : Str → Option Value} {base : Heap} {f : Addr} {fd : FuncData} {ps : List Str} {k : Nat} {sp : Sp} (no : ∀ vs H Q E, ¬ sp vs H Q E) : FnOk P w K mg base CX0 k f fd ps sp :=
  ⟨fun vs H Q E h => absurd h (no vs H Q E), fun A outer s H args us vs Q E _ _ _ _ h => absurd h (no vs H Q E)⟩
theorem small {n : Nat} (h : n ≤ 100000) : n ≤ sizeLine := Nat.le_trans h (by decide)
theorem smaller {n : Nat} (h : n ≤ 100000) : n < sizeLine := Nat.lt_of_le_of_lt h (by decide)
end FW

end
section
namespace FW
open PySem L2 FF
section
variable {P : Program} {w : World} {K : PySem.W.Frag} {mg : Str → Option Value} {base : Heap} {C : Kd → Addr} {n : Nat} {f : Addr} {fd : FuncData} {g1 g2 : Kd → Addr} {gd1 gd2 : Kd → FuncData}
theorem scPBare : FnScope ["self"] ["self"] (defScope sPBare) := ⟨rfl, rfl, rfl, by decide +kernel, rfl, by decide +kernel, by decide +kernel⟩
theorem ok_PBare (F : Fun K "bare" "Pattern.bare" sPBare f fd) (T : Txt K mg C) (k : Kd) (hk : k = .pat) : FnOk P w K mg base CX0 (n + 1) f fd ["self"] (spBareM C (n + 1) k) := by
  refine F.ok scPBare (fun vs H Q E h => ?_) (fun cdv A outer s H vs Q E hr h => ?_)
  · obtain ⟨a, p, rfl, _⟩ := h
    rfl
  obtain ⟨a, p, rfl, ob, ek, fit, q⟩ := h
  subst ek
  refine ⟨_, pss_one (ps_ret (pe_bl)), ?_⟩
  have e : bare p = true := by cases p <;> first | rfl | exact (nomatch hk) | (simp [kd] at hk)
  have := q H (Same.refl H)
  rw [e] at this
  exact this
theorem scOBare : FnScope ["self"] ["self"] (defScope sOBare) := ⟨rfl, rfl, rfl, by decide +kernel, rfl, by decide +kernel, by decide +kernel⟩
theorem ok_OBare (F : Fun K "bare" "One.bare" sOBare f fd) (T : Txt K mg C) (k : Kd) (hk : k = .one) : FnOk P w K mg base CX0 (n + 1) f fd ["self"] (spBareM C (n + 1) k) := by
  refine F.ok scOBare (fun vs H Q E h => ?_) (fun cdv A outer s H vs Q E hr h => ?_)
  · obtain ⟨a, p, rfl, _⟩ := h
    rfl
  obtain ⟨a, p, rfl, ob, ek, fit, q⟩ := h
  subst ek
  refine ⟨_, pss_one (ps_ret (pe_bl)), ?_⟩
  have e : bare p = false := by cases p <;> first | rfl | exact (nomatch hk) | (simp [kd] at hk)
  have := q H (Same.refl H)
  rw [e] at this
  exact this
theorem scMBare : FnScope ["self"] ["self"] (defScope sMBare) := ⟨rfl, rfl, rfl, by decide +kernel, rfl, by decide +kernel, by decide +kernel⟩
theorem ok_MBare (F : Fun K "bare" "Maybe.bare" sMBare f fd) (T : Txt K mg C) (k : Kd) (hk : k = .maybe) : FnOk P w K mg base CX0 (n + 1) f fd ["self"] (spBareM C (n + 1) k) := by
  refine F.ok scMBare (fun vs H Q E h => ?_) (fun cdv A outer s H vs Q E hr h => ?_)
  · obtain ⟨a, p, rfl, _⟩ := h
    rfl
  obtain ⟨a, p, rfl, ob, ek, fit, q⟩ := h
  subst ek
  refine ⟨_, pss_one (ps_ret (pe_bl)), ?_⟩
  have e : bare p = true := by cases p <;> first | rfl | exact (nomatch hk) | (simp [kd] at hk)
  have := q H (Same.refl H)
  rw [e] at this
  exact this
theorem scYBare : FnScope ["self"] ["self"] (defScope sYBare) := ⟨rfl, rfl, rfl, by decide +kernel, rfl, by decide +kernel, by decide +kernel⟩
theorem ok_YBare (F : Fun K "bare" "Many.bare" sYBare f fd) (T : Txt K mg C) (k : Kd) (hk : k = .many) : FnOk P w K mg base CX0 (n + 1) f fd ["self"] (spBareM C (n + 1) k) := by
  refine F.ok scYBare (fun vs H Q E h => ?_) (fun cdv A outer s H vs Q E hr h => ?_)
  · obtain ⟨a, p, rfl, _⟩ := h
    rfl
  obtain ⟨a, p, rfl, ob, ek, fit, q⟩ := h
  subst ek
  refine ⟨_, pss_one (ps_ret (pe_bl)), ?_⟩
  have e : bare p = true := by cases p <;> first | rfl | exact (nomatch hk) | (simp [kd] at hk)
  have := q H (Same.refl H)
  rw [e] at this
  exact this
theorem scPFirsts : FnScope ["self"] ["self"] (defScope sPFirsts) := ⟨rfl, rfl, rfl, by decide +kernel, rfl, by decide +kernel, by decide +kernel⟩
theorem ok_PFirsts (F : Fun K "firsts" "Pattern.firsts" sPFirsts f fd) (T : Txt K mg C) (k : Kd) (hk : k = .pat) : FnOk P w K mg base CX0 (n + 1) f fd ["self"] (spList C firsts (n + 1) k) := by
  refine F.ok scPFirsts (fun vs H Q E h => ?_) (fun cdv A outer s H vs Q E hr h => ?_)
  · obtain ⟨a, p, rfl, _⟩ := h
    rfl
  obtain ⟨a, p, rfl, ob, ek, fit, q⟩ := h
  subst ek
  refine ⟨_, pss_one (ps_ret (pe_lst pa_nil)), ?_⟩
  have e : firsts p = [] := by cases p <;> first | (simp [firsts]; done) | (simp [kd] at hk)
  refine ⟨small (by show (0:Nat) ≤ 100000; decide), fun r hr' => q r _ (same_new hr' _) hr' ?_⟩
  rw [upd_same, e]; rfl
theorem scPLasts : FnScope ["self"] ["self"] (defScope sPLasts) := ⟨rfl, rfl, rfl, by decide +kernel, rfl, by decide +kernel, by decide +kernel⟩
theorem ok_PLasts (F : Fun K "lasts" "Pattern.lasts" sPLasts f fd) (T : Txt K mg C) (k : Kd) (hk : k = .pat) : FnOk P w K mg base CX0 (n + 1) f fd ["self"] (spList C lasts (n + 1) k) := by
  refine F.ok scPLasts (fun vs H Q E h => ?_) (fun cdv A outer s H vs Q E hr h => ?_)
  · obtain ⟨a, p, rfl, _⟩ := h
    rfl
  obtain ⟨a, p, rfl, ob, ek, fit, q⟩ := h
  subst ek
  refine ⟨_, pss_one (ps_ret (pe_lst pa_nil)), ?_⟩
  have e : lasts p = [] := by cases p <;> first | (simp [lasts]; done) | (simp [kd] at hk)
  refine ⟨small (by show (0:Nat) ≤ 100000; decide), fun r hr' => q r _ (same_new hr' _) hr' ?_⟩
  rw [upd_same, e]; rfl
theorem scOSigns : FnScope ["self"] ["self"] (defScope sOSigns) := ⟨rfl, rfl, rfl, by decide +kernel, rfl, by decide +kernel, by decide +kernel⟩
theorem ok_OSigns (F : Fun K "signs" "One.signs" sOSigns f fd) (T : Txt K mg C) (k : Kd) (hk : k = .one) : FnOk P w K mg base CX0 (n + 1) f fd ["self"] (spList C signs (n + 1) k) := by
  refine F.ok scOSigns (fun vs H Q E h => ?_) (fun cdv A outer s H vs Q E hr h => ?_)
  · obtain ⟨a, p, rfl, _⟩ := h
    rfl
  obtain ⟨a, p, rfl, ob, ek, fit, q⟩ := h
  subst ek
  refine ⟨_, pss_one (ps_ret (pe_lst (pa_cons (pe_fld (pv 0) rfl) pa_nil))), ?_⟩
  obtain ⟨x, rfl⟩ : ∃ x, p = .one x := by cases p <;> first | exact ⟨_, rfl⟩ | (simp [kd] at hk)
  cases ob with
  | mk h1 h2 h3 =>
  refine ⟨_, rfl, a, _, _, _, _, rfl, h1, T.cl _, T.nS, flds_sign _ _, small (by show (1:Nat) ≤ 100000; decide), fun r hr' => q r _ (same_new hr' _) hr' ?_⟩
  rw [upd_same, signs]; rfl
theorem scOFirsts : FnScope ["self"] ["self"] (defScope sOFirsts) := ⟨rfl, rfl, rfl, by decide +kernel, rfl, by decide +kernel, by decide +kernel⟩
theorem ok_OFirsts (F : Fun K "firsts" "One.firsts" sOFirsts f fd) (T : Txt K mg C) (k : Kd) (hk : k = .one) : FnOk P w K mg base CX0 (n + 1) f fd ["self"] (spList C firsts (n + 1) k) := by
  refine F.ok scOFirsts (fun vs H Q E h => ?_) (fun cdv A outer s H vs Q E hr h => ?_)
  · obtain ⟨a, p, rfl, _⟩ := h
    rfl
  obtain ⟨a, p, rfl, ob, ek, fit, q⟩ := h
  subst ek
  refine ⟨_, pss_one (ps_ret (pe_lst (pa_cons (pe_fld (pv 0) rfl) pa_nil))), ?_⟩
  obtain ⟨x, rfl⟩ : ∃ x, p = .one x := by cases p <;> first | exact ⟨_, rfl⟩ | (simp [kd] at hk)
  cases ob with
  | mk h1 h2 h3 =>
  refine ⟨_, rfl, a, _, _, _, _, rfl, h1, T.cl _, T.nS, flds_sign _ _, small (by show (1:Nat) ≤ 100000; decide), fun r hr' => q r _ (same_new hr' _) hr' ?_⟩
  rw [upd_same, firsts]; rfl
theorem scOLasts : FnScope ["self"] ["self"] (defScope sOLasts) := ⟨rfl, rfl, rfl, by decide +kernel, rfl, by decide +kernel, by decide +kernel⟩
theorem ok_OLasts (F : Fun K "lasts" "One.lasts" sOLasts f fd) (T : Txt K mg C) (k : Kd) (hk : k = .one) : FnOk P w K mg base CX0 (n + 1) f fd ["self"] (spList C lasts (n + 1) k) := by
  refine F.ok scOLasts (fun vs H Q E h => ?_) (fun cdv A outer s H vs Q E hr h => ?_)
  · obtain ⟨a, p, rfl, _⟩ := h
    rfl
  obtain ⟨a, p, rfl, ob, ek, fit, q⟩ := h
  subst ek
  refine ⟨_, pss_one (ps_ret (pe_lst (pa_cons (pe_fld (pv 0) rfl) pa_nil))), ?_⟩
  obtain ⟨x, rfl⟩ : ∃ x, p = .one x := by cases p <;> first | exact ⟨_, rfl⟩ | (simp [kd] at hk)
  cases ob with
  | mk h1 h2 h3 =>
  refine ⟨_, rfl, a, _, _, _, _, rfl, h1, T.cl _, T.nS, flds_sign _ _, small (by show (1:Nat) ≤ 100000; decide), fun r hr' => q r _ (same_new hr' _) hr' ?_⟩
  rw [upd_same, lasts]; rfl
theorem scPSigns : FnScope ["self", "found", "one"] ["self"] (defScope sPSigns) := ⟨rfl, rfl, rfl, by decide +kernel, rfl, by decide +kernel, by decide +kernel⟩
theorem ok_PSigns (F : Fun K "signs" "Pattern.signs" sPSigns f fd) (T : Txt K mg C) (D : Disp P w K mg base C "signs" n ["self"] (spList C signs n) g1 gd1) (k : Kd) (hk : k ≠ .one) : FnOk P w K mg base CX0 (n + 1) f fd ["self"] (spList C signs (n + 1) k) := by
  refine F.ok scPSigns (fun vs H Q E h => ?_) (fun cdv A outer s H vs Q E hr h => ?_)
  · obtain ⟨a, p, rfl, _⟩ := h
    rfl
  obtain ⟨a, p, rfl, ob, ek, fit, q⟩ := h
  subst ek
  have e : signs p = signsL (kids p) := by
    exact signs_kids (fun x e => by subst e; exact hk rfl)
  have hz : (signs p).length ≤ 1000 := Nat.le_trans (Nat.le_refl _) fit.2.2
  cases ob with
  | @mk _ dx l as _ h1 h2 h3 =>
  refine ⟨_, pss_cons (ps_set (i := 1) scPSigns.nd rfl (Or.inl rfl) (pe_lst pa_nil))
    (pss_cons (ps_for PassesOwn.never rfl (pi_list (pe_fld (pv 0) rfl)) (pg_name (i := 2) scPSigns.nd rfl (Or.inl rfl)) (pss_one (ps_expr (pe_bm PySem.F.plainAttrs_list PySem.F.slot_list_extend PySem.F.type_list_extend mt_extend (pv 1) (pa_cons (pe_disp0 (pv 2) T.cl D hr (by decide +kernel) (by decide +kernel)) pa_nil)))))
    (pss_one (ps_ret (pv 1)))), ?_⟩
  refine ⟨small (by show (0:Nat) ≤ 100000; decide), fun r hr' => ?_⟩
  have s1 := same_new hr' (.lst [])
  refine ⟨_, rfl, a, _, dx, _, _, rfl, s1 _ _ h1, T.cl _, T.nW _, flds_within _ _, l, rfl, ⟨_, SqL.of (s1 _ _ h2)⟩,
    for_list (K := K) (a := l) (xs := as.map V.ref) (fun i σ H2 => ∃ v, σ = [some (.ref a), some (.ref r), v] ∧ Same H H2 ∧ H2 r = some (.lst ((signsL ((kids p).take i)).map V.str)))
      ⟨none, rfl, s1, upd_same⟩ (fun i σ H2 _ ⟨_, _, s2, _⟩ => SqL.of (s2 _ _ h2)) ?_ ?_⟩
  · rintro i x σ H2 hx ⟨v, rfl, s2, hf⟩
    obtain ⟨ai, hai, rfl⟩ := ref_at hx
    obtain ⟨p1, hp1, ob1⟩ := h3.at_ hai
    refine ⟨_, rfl, .inl ⟨rfl, _, SqL.of hf⟩, _, rfl, ai, p1, rfl, ob1.mono s2, ai, p1, rfl, ob1.mono s2, rfl, fit.kid (List.mem_of_getElem? hp1), fun r2 H3 s3 n3 e3 => ?_⟩
    have en : signsL ((kids p).take (i + 1)) = signsL ((kids p).take i) ++ signs p1 := by rw [take_snoc hp1, signsL_snoc]
    have hb : (signsL ((kids p).take (i + 1))).length ≤ 1000 := by
      have e2 : signsL (kids p) = signsL ((kids p).take (i + 1)) ++ signsL ((kids p).drop (i + 1)) := by rw [← signsL_append, List.take_append_drop]
      rw [e, e2, List.length_append] at hz
      omega
    refine ⟨r, r2, _, _, rfl, rfl, s3 _ _ hf, e3, ?_, ?_⟩
    · rw [en, List.length_append] at hb
      rw [List.length_map, List.length_map]
      exact small (by omega)
    · refine ⟨some (.ref ai), rfl, same_upd (s2.trans s3) hr' _, ?_⟩
      rw [upd_same, en, List.map_append]
  · rintro σ H2 ⟨v, rfl, s2, hf⟩
    refine ⟨_, rfl, q r H2 s2 hr' ?_⟩
    rw [hf, e, List.take_of_length_le]
    rw [List.length_map, h3.len]
    exact Nat.le_refl _
theorem scAFirsts : FnScope ["self", "found", "one"] ["self"] (defScope sAFirsts) := ⟨rfl, rfl, rfl, by decide +kernel, rfl, by decide +kernel, by decide +kernel⟩
theorem ok_AFirsts (F : Fun K "firsts" "Any.firsts" sAFirsts f fd) (T : Txt K mg C) (D : Disp P w K mg base C "firsts" n ["self"] (spList C firsts n) g1 gd1) (k : Kd) (hk : k ≠ .pat ∧ k ≠ .one ∧ k ≠ .row) : FnOk P w K mg base CX0 (n + 1) f fd ["self"] (spList C firsts (n + 1) k) := by
  refine F.ok scAFirsts (fun vs H Q E h => ?_) (fun cdv A outer s H vs Q E hr h => ?_)
  · obtain ⟨a, p, rfl, _⟩ := h
    rfl
  obtain ⟨a, p, rfl, ob, ek, fit, q⟩ := h
  subst ek
  have e : firsts p = firstsA (kids p) := by
    cases p <;> first | (simp [kids, firsts, firstsA]; done) | (simp [kd] at hk)
  have hz : (firsts p).length ≤ 1000 := Nat.le_trans (len_firsts p) fit.2.2
  cases ob with
  | @mk _ dx l as _ h1 h2 h3 =>
  refine ⟨_, pss_cons (ps_set (i := 1) scAFirsts.nd rfl (Or.inl rfl) (pe_lst pa_nil))
    (pss_cons (ps_for PassesOwn.never rfl (pi_list (pe_fld (pv 0) rfl)) (pg_name (i := 2) scAFirsts.nd rfl (Or.inl rfl)) (pss_one (ps_expr (pe_bm PySem.F.plainAttrs_list PySem.F.slot_list_extend PySem.F.type_list_extend mt_extend (pv 1) (pa_cons (pe_disp0 (pv 2) T.cl D hr (by decide +kernel) (by decide +kernel)) pa_nil)))))
    (pss_one (ps_ret (pv 1)))), ?_⟩
  refine ⟨small (by show (0:Nat) ≤ 100000; decide), fun r hr' => ?_⟩
  have s1 := same_new hr' (.lst [])
  refine ⟨_, rfl, a, _, dx, _, _, rfl, s1 _ _ h1, T.cl _, T.nW _, flds_within _ _, l, rfl, ⟨_, SqL.of (s1 _ _ h2)⟩,
    for_list (K := K) (a := l) (xs := as.map V.ref) (fun i σ H2 => ∃ v, σ = [some (.ref a), some (.ref r), v] ∧ Same H H2 ∧ H2 r = some (.lst ((firstsA ((kids p).take i)).map V.str)))
      ⟨none, rfl, s1, upd_same⟩ (fun i σ H2 _ ⟨_, _, s2, _⟩ => SqL.of (s2 _ _ h2)) ?_ ?_⟩
  · rintro i x σ H2 hx ⟨v, rfl, s2, hf⟩
    obtain ⟨ai, hai, rfl⟩ := ref_at hx
    obtain ⟨p1, hp1, ob1⟩ := h3.at_ hai
    refine ⟨_, rfl, .inl ⟨rfl, _, SqL.of hf⟩, _, rfl, ai, p1, rfl, ob1.mono s2, ai, p1, rfl, ob1.mono s2, rfl, fit.kid (List.mem_of_getElem? hp1), fun r2 H3 s3 n3 e3 => ?_⟩
    have en : firstsA ((kids p).take (i + 1)) = firstsA ((kids p).take i) ++ firsts p1 := by rw [take_snoc hp1, firstsA_snoc]
    have hb : (firstsA ((kids p).take (i + 1))).length ≤ 1000 := by
      have e2 : firstsA (kids p) = firstsA ((kids p).take (i + 1)) ++ firstsA ((kids p).drop (i + 1)) := by rw [← firstsA_append, List.take_append_drop]
      rw [e, e2, List.length_append] at hz
      omega
    refine ⟨r, r2, _, _, rfl, rfl, s3 _ _ hf, e3, ?_, ?_⟩
    · rw [en, List.length_append] at hb
      rw [List.length_map, List.length_map]
      exact small (by omega)
    · refine ⟨some (.ref ai), rfl, same_upd (s2.trans s3) hr' _, ?_⟩
      rw [upd_same, en, List.map_append]
  · rintro σ H2 ⟨v, rfl, s2, hf⟩
    refine ⟨_, rfl, q r H2 s2 hr' ?_⟩
    rw [hf, e, List.take_of_length_le]
    rw [List.length_map, h3.len]
    exact Nat.le_refl _
theorem scALasts : FnScope ["self", "found", "one"] ["self"] (defScope sALasts) := ⟨rfl, rfl, rfl, by decide +kernel, rfl, by decide +kernel, by decide +kernel⟩
theorem ok_ALasts (F : Fun K "lasts" "Any.lasts" sALasts f fd) (T : Txt K mg C) (D : Disp P w K mg base C "lasts" n ["self"] (spList C lasts n) g1 gd1) (k : Kd) (hk : k ≠ .pat ∧ k ≠ .one ∧ k ≠ .row) : FnOk P w K mg base CX0 (n + 1) f fd ["self"] (spList C lasts (n + 1) k) := by
  refine F.ok scALasts (fun vs H Q E h => ?_) (fun cdv A outer s H vs Q E hr h => ?_)
  · obtain ⟨a, p, rfl, _⟩ := h
    rfl
  obtain ⟨a, p, rfl, ob, ek, fit, q⟩ := h
  subst ek
  have e : lasts p = lastsA (kids p) := by
    cases p <;> first | (simp [kids, lasts, lastsA]; done) | (simp [kd] at hk)
  have hz : (lasts p).length ≤ 1000 := Nat.le_trans (len_lasts p) fit.2.2
  cases ob with
  | @mk _ dx l as _ h1 h2 h3 =>
  refine ⟨_, pss_cons (ps_set (i := 1) scALasts.nd rfl (Or.inl rfl) (pe_lst pa_nil))
    (pss_cons (ps_for PassesOwn.never rfl (pi_list (pe_fld (pv 0) rfl)) (pg_name (i := 2) scALasts.nd rfl (Or.inl rfl)) (pss_one (ps_expr (pe_bm PySem.F.plainAttrs_list PySem.F.slot_list_extend PySem.F.type_list_extend mt_extend (pv 1) (pa_cons (pe_disp0 (pv 2) T.cl D hr (by decide +kernel) (by decide +kernel)) pa_nil)))))
    (pss_one (ps_ret (pv 1)))), ?_⟩
  refine ⟨small (by show (0:Nat) ≤ 100000; decide), fun r hr' => ?_⟩
  have s1 := same_new hr' (.lst [])
  refine ⟨_, rfl, a, _, dx, _, _, rfl, s1 _ _ h1, T.cl _, T.nW _, flds_within _ _, l, rfl, ⟨_, SqL.of (s1 _ _ h2)⟩,
    for_list (K := K) (a := l) (xs := as.map V.ref) (fun i σ H2 => ∃ v, σ = [some (.ref a), some (.ref r), v] ∧ Same H H2 ∧ H2 r = some (.lst ((lastsA ((kids p).take i)).map V.str)))
      ⟨none, rfl, s1, upd_same⟩ (fun i σ H2 _ ⟨_, _, s2, _⟩ => SqL.of (s2 _ _ h2)) ?_ ?_⟩
  · rintro i x σ H2 hx ⟨v, rfl, s2, hf⟩
    obtain ⟨ai, hai, rfl⟩ := ref_at hx
    obtain ⟨p1, hp1, ob1⟩ := h3.at_ hai
    refine ⟨_, rfl, .inl ⟨rfl, _, SqL.of hf⟩, _, rfl, ai, p1, rfl, ob1.mono s2, ai, p1, rfl, ob1.mono s2, rfl, fit.kid (List.mem_of_getElem? hp1), fun r2 H3 s3 n3 e3 => ?_⟩
    have en : lastsA ((kids p).take (i + 1)) = lastsA ((kids p).take i) ++ lasts p1 := by rw [take_snoc hp1, lastsA_snoc]
    have hb : (lastsA ((kids p).take (i + 1))).length ≤ 1000 := by
      have e2 : lastsA (kids p) = lastsA ((kids p).take (i + 1)) ++ lastsA ((kids p).drop (i + 1)) := by rw [← lastsA_append, List.take_append_drop]
      rw [e, e2, List.length_append] at hz
      omega
    refine ⟨r, r2, _, _, rfl, rfl, s3 _ _ hf, e3, ?_, ?_⟩
    · rw [en, List.length_append] at hb
      rw [List.length_map, List.length_map]
      exact small (by omega)
    · refine ⟨some (.ref ai), rfl, same_upd (s2.trans s3) hr' _, ?_⟩
      rw [upd_same, en, List.map_append]
  · rintro σ H2 ⟨v, rfl, s2, hf⟩
    refine ⟨_, rfl, q r H2 s2 hr' ?_⟩
    rw [hf, e, List.take_of_length_le]
    rw [List.length_map, h3.len]
    exact Nat.le_refl _
end
end FW

end
section
namespace FW
open PySem L2 FF

/-- over a list from its end, which the body leaves as it is -/
theorem for_rev {K : PySem.W.Frag} {a : Addr} {n : Nat} {g : TG} {tb : TS} {D : Ends} {σ : St} {H : Hp} (Pv : Nat → St → Hp → Prop) (h0 : Pv 0 σ H) {xs : List V} (en : xs.length = n) (hl : ∀ i σ H, i ≤ n → Pv i σ H → SqL K H a xs)
    (hs : ∀ i x σ H, i < n → xs[n - 1 - i]? = some x → Pv i σ H → g x σ H fun σ2 H2 => tb { D with nx := Pv (i + 1), ct := Pv (i + 1), bk := D.nx } σ2 H2) (hd : ∀ σ H, Pv n σ H → D.nx σ H) :
    ∃ W : Nat → Nat → St → Hp → Prop, (∃ m, W 0 m σ H) ∧ ∀ i m σ H, W i m σ H →
      ((Itv K a n).stop i H ∧ D.nx σ H) ∨ ((Itv K a n).go i H ∧ ∃ N : St → Hp → Prop, (∀ σ' H', N σ' H' → ∃ m', m' < m ∧ W (i + 1) m' σ' H') ∧ ∀ x H', (Itv K a n).yld i H x H' → g x σ H' fun σ2 H2 => tb { D with nx := N, ct := N, bk := D.nx } σ2 H2) := by
  refine ⟨fun i m σ H => m = n - i ∧ i ≤ n ∧ Pv i σ H, ⟨n, by simp, Nat.zero_le _, h0⟩, ?_⟩
  rintro i m σ H ⟨rfl, hi, p⟩
  have q := hl i σ H hi p
  by_cases hlt : i < n
  · have hx : n - 1 - i < xs.length := by omega
    refine .inr ⟨⟨hlt, xs, xs[n - 1 - i], q, List.getElem?_eq_getElem hx⟩, Pv (i + 1), fun σ' H' p' => ⟨n - (i + 1), by omega, rfl, hlt, p'⟩, fun x H' y => ?_⟩
    obtain ⟨e, y⟩ := y
    subst e
    exact hs i x σ _ hlt (y xs q) p
  · have e : i = n := by omega
    subst e
    exact .inl ⟨Nat.le_refl _, hd σ H p⟩
section
variable {P : Program} {w : World} {K : PySem.W.Frag} {mg : Str → Option Value} {base : Heap} {C : Kd → Addr} {n : Nat} {f : Addr} {fd : FuncData} {g1 g2 : Kd → Addr} {gd1 gd2 : Kd → FuncData}
theorem scRBare : FnScope ["self", "one"] ["self"] (defScope sRBare) := ⟨rfl, rfl, rfl, by decide +kernel, rfl, by decide +kernel, by decide +kernel⟩
theorem ok_RBare (F : Fun K "bare" "Row.bare" sRBare f fd) (T : Txt K mg C) (D : Disp P w K mg base C "bare" n ["self"] (spBareM C n) g1 gd1) (k : Kd) (hk : k = .row) : FnOk P w K mg base CX0 (n + 1) f fd ["self"] (spBareM C (n + 1) k) := by
  refine F.ok scRBare (fun vs H Q E h => ?_) (fun cdv A outer s H vs Q E hr h => ?_)
  · obtain ⟨a, p, rfl, _⟩ := h
    rfl
  obtain ⟨a, p, rfl, ob, ek, fit, q⟩ := h
  subst ek
  have e : bare p = bareAll (kids p) := by
    cases p <;> first | (simp [kids, bare, bareAll, bareAny]; done) | (simp [kd] at hk)
  cases ob with
  | @mk _ dx l as _ h1 h2 h3 =>
  refine ⟨_, pss_one (ps_ret (pe_callB (cr_all rfl) (by rfl) T.all_ (by decide +kernel) (pa_cons (pe_lc (own := [("one", 1)]) (g := gName 1) (tt := tYes) rfl scRBare.nd (pi_list (pe_fld (pv 0) rfl)) (blkOk_by (own := [("one", 1)]) (N := ["self", "one"]) (sc := defScope sRBare) (by decide +kernel))
    (fun _ _ _ _ _ => pg_name (i := 1) scRBare.nd rfl (Or.inl rfl)) (fun _ _ _ _ _ => pts_nil) (fun _ _ _ _ _ => pe_disp0 (pv 1) T.cl D hr (by decide +kernel) (by decide +kernel))) pa_nil))), ?_⟩
  refine ⟨_, rfl, a, _, dx, _, _, rfl, h1, T.cl _, T.nW _, flds_within _ _, l, rfl, ⟨_, SqL.of h2⟩, fun r hr' =>
    lc_list (K := K) (a := l) (xs := as.map V.ref) (fun i H2 => Same H H2 ∧ H2 r = some (.lst ((((kids p).take i).map bare).map V.bl)))
      ⟨same_new hr' _, upd_same⟩ (fun i H2 _ ⟨s2, _⟩ => SqL.of (s2 _ _ h2)) ?_ ?_⟩
  · rintro i x H2 hx ⟨s2, hf⟩
    obtain ⟨ai, hai, rfl⟩ := ref_at hx
    obtain ⟨p1, hp1, ob1⟩ := h3.at_ hai
    refine ⟨rfl, _, rfl, ai, p1, rfl, ob1.mono s2, ai, p1, rfl, ob1.mono s2, rfl, fit.kid (List.mem_of_getElem? hp1), fun H3 s3 => ?_⟩
    refine ⟨_, s3 _ _ hf, ?_, same_upd (s2.trans s3) hr' _, ?_⟩
    · rw [List.length_map, List.length_map, List.length_take]
      have := fit.len
      exact smaller (by omega)
    · rw [upd_same, take_snoc hp1, List.map_append, List.map_append]; rfl
  · rintro H2 ⟨s2, hf⟩
    refine ⟨r, (kids p).map bare, rfl, ?_, ?_⟩
    · rw [List.take_of_length_le (by rw [List.length_map, h3.len]; exact Nat.le_refl _)] at hf
      exact SqL.of hf
    · rw [bareAll_map, ← e]
      exact q H2 s2
theorem scABare : FnScope ["self", "one"] ["self"] (defScope sABare) := ⟨rfl, rfl, rfl, by decide +kernel, rfl, by decide +kernel, by decide +kernel⟩
theorem ok_ABare (F : Fun K "bare" "Any.bare" sABare f fd) (T : Txt K mg C) (D : Disp P w K mg base C "bare" n ["self"] (spBareM C n) g1 gd1) (k : Kd) (hk : k = .any ∨ k = .some) : FnOk P w K mg base CX0 (n + 1) f fd ["self"] (spBareM C (n + 1) k) := by
  refine F.ok scABare (fun vs H Q E h => ?_) (fun cdv A outer s H vs Q E hr h => ?_)
  · obtain ⟨a, p, rfl, _⟩ := h
    rfl
  obtain ⟨a, p, rfl, ob, ek, fit, q⟩ := h
  subst ek
  have e : bare p = bareAny (kids p) := by
    cases p <;> first | (simp [kids, bare, bareAll, bareAny]; done) | (simp [kd] at hk)
  cases ob with
  | @mk _ dx l as _ h1 h2 h3 =>
  refine ⟨_, pss_one (ps_ret (pe_callB (cr_any rfl) (by rfl) T.any_ (by decide +kernel) (pa_cons (pe_lc (own := [("one", 1)]) (g := gName 1) (tt := tYes) rfl scABare.nd (pi_list (pe_fld (pv 0) rfl)) (blkOk_by (own := [("one", 1)]) (N := ["self", "one"]) (sc := defScope sABare) (by decide +kernel))
    (fun _ _ _ _ _ => pg_name (i := 1) scABare.nd rfl (Or.inl rfl)) (fun _ _ _ _ _ => pts_nil) (fun _ _ _ _ _ => pe_disp0 (pv 1) T.cl D hr (by decide +kernel) (by decide +kernel))) pa_nil))), ?_⟩
  refine ⟨_, rfl, a, _, dx, _, _, rfl, h1, T.cl _, T.nW _, flds_within _ _, l, rfl, ⟨_, SqL.of h2⟩, fun r hr' =>
    lc_list (K := K) (a := l) (xs := as.map V.ref) (fun i H2 => Same H H2 ∧ H2 r = some (.lst ((((kids p).take i).map bare).map V.bl)))
      ⟨same_new hr' _, upd_same⟩ (fun i H2 _ ⟨s2, _⟩ => SqL.of (s2 _ _ h2)) ?_ ?_⟩
  · rintro i x H2 hx ⟨s2, hf⟩
    obtain ⟨ai, hai, rfl⟩ := ref_at hx
    obtain ⟨p1, hp1, ob1⟩ := h3.at_ hai
    refine ⟨rfl, _, rfl, ai, p1, rfl, ob1.mono s2, ai, p1, rfl, ob1.mono s2, rfl, fit.kid (List.mem_of_getElem? hp1), fun H3 s3 => ?_⟩
    refine ⟨_, s3 _ _ hf, ?_, same_upd (s2.trans s3) hr' _, ?_⟩
    · rw [List.length_map, List.length_map, List.length_take]
      have := fit.len
      exact smaller (by omega)
    · rw [upd_same, take_snoc hp1, List.map_append, List.map_append]; rfl
  · rintro H2 ⟨s2, hf⟩
    refine ⟨r, (kids p).map bare, rfl, ?_, ?_⟩
    · rw [List.take_of_length_le (by rw [List.length_map, h3.len]; exact Nat.le_refl _)] at hf
      exact SqL.of hf
    · rw [bareAny_map, ← e]
      exact q H2 s2
theorem scRFirsts : FnScope ["self", "found", "one"] ["self"] (defScope sRFirsts) := ⟨rfl, rfl, rfl, by decide +kernel, rfl, by decide +kernel, by decide +kernel⟩
theorem ok_RFirsts (F : Fun K "firsts" "Row.firsts" sRFirsts f fd) (T : Txt K mg C) (D : Disp P w K mg base C "firsts" n ["self"] (spList C firsts n) g1 gd1) (B : Disp P w K mg base C "bare" n ["self"] (spBareM C n) g2 gd2) : FnOk P w K mg base CX0 (n + 1) f fd ["self"] (spList C firsts (n + 1) .row) := by
  refine F.ok scRFirsts (fun vs H Q E h => ?_) (fun cdv A outer s H vs Q E hr h => ?_)
  · obtain ⟨a, p, rfl, _⟩ := h
    rfl
  obtain ⟨a, p, rfl, ob, ek, fit, q⟩ := h
  have hz : (firsts p).length ≤ 1000 := Nat.le_trans (len_firsts p) fit.2.2
  have e : firsts p = firstsR (kids p) := by cases p <;> first | (simp [kids, firsts]; done) | (simp [kd] at ek)
  rw [e] at hz
  cases ob with
  | @mk _ dx l as _ h1 h2 h3 =>
  refine ⟨_, pss_cons (ps_set (i := 1) scRFirsts.nd rfl (Or.inl rfl) (pe_lst pa_nil))
    (pss_cons (ps_for PassesOwn.never rfl (pi_list (pe_fld (pv 0) rfl)) (pg_name (i := 2) scRFirsts.nd rfl (Or.inl rfl))
      (pss_cons (ps_expr (pe_bm PySem.F.plainAttrs_list PySem.F.slot_list_extend PySem.F.type_list_extend mt_extend (pv 1) (pa_cons (pe_disp0 (pv 2) T.cl D hr (by decide +kernel) (by decide +kernel)) pa_nil)))
      (pss_one (ps_if (pt_not (pt_val (pe_disp0 (pv 2) T.cl B hr (by decide +kernel) (by decide +kernel)))) (pss_one ps_break) pss_nil))))
    (pss_one (ps_ret (pv 1)))), ?_⟩
  refine ⟨small (by show (0:Nat) ≤ 100000; decide), fun r hr' => ?_⟩
  have s1 := same_new hr' (.lst [])
  refine ⟨_, rfl, a, _, dx, _, _, rfl, s1 _ _ h1, T.cl _, T.nW _, flds_within _ _, l, rfl, ⟨_, SqL.of (s1 _ _ h2)⟩,
    for_list (K := K) (a := l) (xs := as.map V.ref) (fun i σ H2 => ∃ (v : Option V) (fs : List Str), σ = [some (.ref a), some (.ref r), v] ∧ Same H H2 ∧ H2 r = some (.lst (fs.map V.str)) ∧ fs ++ firstsR ((kids p).drop i) = firstsR (kids p))
      ⟨none, [], rfl, s1, upd_same, rfl⟩ (fun i σ H2 _ ⟨_, _, _, s2, _⟩ => SqL.of (s2 _ _ h2)) ?_ ?_⟩
  · rintro i x σ H2 hx ⟨v, fs, rfl, s2, hf, ef⟩
    obtain ⟨ai, hai, rfl⟩ := ref_at hx
    obtain ⟨p1, hp1, ob1⟩ := h3.at_ hai
    rw [drop_cons hp1, firstsR, ← List.append_assoc] at ef
    refine ⟨_, rfl, .inl ⟨rfl, _, SqL.of hf⟩, _, rfl, ai, p1, rfl, ob1.mono s2, ai, p1, rfl, ob1.mono s2, rfl, fit.kid (List.mem_of_getElem? hp1), fun r2 H3 s3 n3 e3 => ?_⟩
    refine ⟨r, r2, _, _, rfl, rfl, s3 _ _ hf, e3, ?_, ?_⟩
    · rw [List.length_map, List.length_map]
      rw [← ef, List.length_append, List.length_append] at hz
      exact small (by omega)
    have s4 := same_upd (s2.trans s3) hr' (.lst (fs.map V.str ++ (firsts p1).map V.str))
    refine ⟨_, rfl, ai, p1, rfl, ob1.mono s4, ai, p1, rfl, ob1.mono s4, rfl, fit.kid (List.mem_of_getElem? hp1), fun H4 s5 => ?_⟩
    refine ⟨_, rfl, ?_⟩
    have hf4 : H4 r = some (.lst ((fs ++ firsts p1).map V.str)) := s5 _ _ (by rw [upd_same, List.map_append])
    cases hb : bare p1 with
    | true =>
      rw [hb, if_pos rfl] at ef
      exact iteF ⟨some (.ref ai), fs ++ firsts p1, rfl, s4.trans s5, hf4, ef⟩
    | false =>
      rw [hb, if_neg (by decide), List.append_nil] at ef
      refine iteT ⟨_, rfl, q r H4 (s4.trans s5) hr' ?_⟩
      rw [hf4, ef, e]
  · rintro σ H2 ⟨v, fs, rfl, s2, hf, ef⟩
    refine ⟨_, rfl, q r H2 s2 hr' ?_⟩
    rw [List.length_map, h3.len, List.drop_length, firstsR, List.append_nil] at ef
    rw [hf, e, ef]
theorem scRLasts : FnScope ["self", "found", "one"] ["self"] (defScope sRLasts) := ⟨rfl, rfl, rfl, by decide +kernel, rfl, by decide +kernel, by decide +kernel⟩
theorem ok_RLasts (F : Fun K "lasts" "Row.lasts" sRLasts f fd) (T : Txt K mg C) (D : Disp P w K mg base C "lasts" n ["self"] (spList C lasts n) g1 gd1) (B : Disp P w K mg base C "bare" n ["self"] (spBareM C n) g2 gd2) : FnOk P w K mg base CX0 (n + 1) f fd ["self"] (spList C lasts (n + 1) .row) := by
  refine F.ok scRLasts (fun vs H Q E h => ?_) (fun cdv A outer s H vs Q E hr h => ?_)
  · obtain ⟨a, p, rfl, _⟩ := h
    rfl
  obtain ⟨a, p, rfl, ob, ek, fit, q⟩ := h
  have hz : (lasts p).length ≤ 1000 := Nat.le_trans (len_lasts p) fit.2.2
  have e : lasts p = lastsR (kids p) := by cases p <;> first | (simp [kids, lasts]; done) | (simp [kd] at ek)
  rw [e] at hz
  cases ob with
  | @mk _ dx l as _ h1 h2 h3 =>
  have el : (as.map V.ref).length = (kids p).length := by rw [List.length_map, h3.len]
  refine ⟨_, pss_cons (ps_set (i := 1) scRLasts.nd rfl (Or.inl rfl) (pe_lst pa_nil))
    (pss_cons (ps_for PassesOwn.never rfl (pi_reversed (by rfl) T.rev (pa_cons (pe_fld (pv 0) rfl) pa_nil)) (pg_name (i := 2) scRLasts.nd rfl (Or.inl rfl))
      (pss_cons (ps_set (i := 1) scRLasts.nd rfl (Or.inl rfl) (pe_op op_cat (pe_disp0 (pv 2) T.cl D hr (by decide +kernel) (by decide +kernel)) (pv 1)))
      (pss_one (ps_if (pt_not (pt_val (pe_disp0 (pv 2) T.cl B hr (by decide +kernel) (by decide +kernel)))) (pss_one ps_break) pss_nil))))
    (pss_one (ps_ret (pv 1)))), ?_⟩
  refine ⟨small (by show (0:Nat) ≤ 100000; decide), fun r hr' => ?_⟩
  have s1 := same_new hr' (.lst [])
  refine ⟨_, rfl, a, _, dx, _, _, rfl, s1 _ _ h1, T.cl _, T.nW _, flds_within _ _, l, _, rfl, SqL.of (s1 _ _ h2), ?_⟩
  rw [el]
  have hk : ∀ k, bareAll ((kids p).drop k) = true → (lastsR ((kids p).drop k)).length ≤ 1000 := fun k hb => by
    rw [← List.take_append_drop k (kids p), lastsR_append, List.length_append] at hz
    omega
  refine for_rev (K := K) (a := l) (n := (kids p).length) (fun i σ H2 => ∃ (v : Option V) (r2 : Addr), σ = [some (.ref a), some (.ref r2), v] ∧ Same H H2 ∧ H r2 = none ∧ H2 r2 = some (.lst ((lastsR ((kids p).drop ((kids p).length - i))).map V.str)) ∧ bareAll ((kids p).drop ((kids p).length - i)) = true)
      ⟨none, r, rfl, s1, hr', by rw [Nat.sub_zero, List.drop_length, lastsR, upd_same]; rfl, by rw [Nat.sub_zero, List.drop_length, bareAll]⟩ (xs := as.map V.ref) el (fun i σ H2 _ ⟨_, _, _, s2, _⟩ => SqL.of (s2 _ _ h2)) ?_ ?_
  · rintro i x σ H2 hi hx ⟨v, r2, rfl, s2, n2, hf, hb⟩
    obtain ⟨ai, hai, rfl⟩ := ref_at hx
    obtain ⟨p1, hp1, ob1⟩ := h3.at_ hai
    have ei : (kids p).length - 1 - i + 1 = (kids p).length - i := by omega
    have e2 : (kids p).length - (i + 1) = (kids p).length - 1 - i := by omega
    have dc := drop_cons hp1
    rw [ei] at dc
    have eL : lastsR ((kids p).drop ((kids p).length - 1 - i)) = lasts p1 ++ lastsR ((kids p).drop ((kids p).length - i)) := by rw [dc, lastsR, hb, if_pos rfl]
    refine ⟨_, rfl, ai, p1, rfl, ob1.mono s2, ai, p1, rfl, ob1.mono s2, rfl, fit.kid (List.mem_of_getElem? hp1), fun r3 H3 s3 n3 e3 => ?_⟩
    have hl1 : (lasts p1).length ≤ 1000 := Nat.le_trans (len_lasts p1) (fit.kid (List.mem_of_getElem? hp1)).2.2
    have hl2 := hk _ hb
    refine ⟨_, rfl, r3, r2, _, _, rfl, rfl, e3, s3 _ _ hf, by rw [List.length_map, List.length_map]; exact small (by omega), fun r4 n4 => ?_⟩
    have s4 := (s2.trans s3).trans (same_new n4 (.lst ((lasts p1).map V.str ++ (lastsR ((kids p).drop ((kids p).length - i))).map V.str)))
    have n4' := (s2.trans s3).free n4
    refine ⟨_, rfl, ai, p1, rfl, ob1.mono s4, ai, p1, rfl, ob1.mono s4, rfl, fit.kid (List.mem_of_getElem? hp1), fun H4 s5 => ?_⟩
    refine ⟨_, rfl, ?_⟩
    have hf4 : H4 r4 = some (.lst ((lastsR ((kids p).drop ((kids p).length - 1 - i))).map V.str)) := s5 _ _ (by rw [upd_same, eL, List.map_append])
    cases hb1 : bare p1 with
    | true => exact iteF ⟨some (.ref ai), r4, rfl, s4.trans s5, n4', by rw [e2]; exact hf4, by rw [e2, dc, bareAll, hb, hb1]; rfl⟩
    | false =>
      refine iteT ⟨_, rfl, q r4 H4 (s4.trans s5) n4' ?_⟩
      rw [hf4, e]
      have : lastsR (kids p) = lastsR ((kids p).drop ((kids p).length - 1 - i)) := by
        conv => lhs; rw [← List.take_append_drop ((kids p).length - 1 - i) (kids p), lastsR_append]
        rw [dc, bareAll, hb1]
        rfl
      rw [this]
  · rintro σ H2 ⟨v, r2, rfl, s2, n2, hf, hb⟩
    refine ⟨_, rfl, q r2 H2 s2 n2 ?_⟩
    rw [Nat.sub_self, List.drop_zero] at hf
    rw [hf, e]
end
end FW

end
section
namespace FW
open PySem L2 FF

/-! ### the table of nexts: a dict from texts to lists of texts -/
abbrev Es := List (Str × Addr)
def adrs (es : Es) : List Addr := es.map (·.2)
def keys (es : Es) : List Str := es.map (·.1)
def kvs (es : Es) : List (Key × V) := es.map fun e => ((Sum.inr e.1 : Key), V.ref e.2)
structure Tab (H : Hp) (d : Addr) (es : Es) (t : Str → List Str) : Prop where
  dict : H d = some (.dK (kvs es))
  ks : (keys es).Nodup
  nd : (adrs es).Nodup
  at_ : ∀ k a, (k, a) ∈ es → H a = some (.lst ((t k).map V.str))
  tn : ∀ k, k ∈ keys es → (t k).Nodup ∧ ∀ y, y ∈ t k → y ∈ keys es
  len : es.length ≤ 1000
theorem valV_es : ∀ {es : Es} {k : Str} {a : Addr}, (keys es).Nodup → (k, a) ∈ es → valV (kvs es) (Sum.inr k) = some (.ref a)
  | (k', a') :: es, k, a, nd, h => by
    have nd : (k' :: keys es).Nodup := nd
    obtain ⟨n1, n2⟩ := List.nodup_cons.mp nd
    rcases List.mem_cons.mp h with e | h
    · have e1 : k = k' := congrArg Prod.fst e
      have e2 : a = a' := congrArg Prod.snd e
      rw [e1, e2]
      exact valV_pos (p := ((Sum.inr k' : Key), V.ref a')) rfl
    · have ne : ¬ (Sum.inr k' : Key) = Sum.inr k := fun e => by
        cases e
        exact n1 (List.mem_map.mpr ⟨(k', a), h, rfl⟩)
      have : valV (kvs ((k', a') :: es)) (Sum.inr k) = valV (kvs es) (Sum.inr k) := valV_neg (p := ((Sum.inr k' : Key), V.ref a')) ne
      rw [this]
      exact valV_es n2 h
theorem key_adr {es : Es} {k : Str} (h : k ∈ keys es) : ∃ a, (k, a) ∈ es := by
  obtain ⟨⟨k', a⟩, h1, h2⟩ := List.mem_map.mp h
  have h2 : k' = k := h2
  subst h2
  exact ⟨a, h1⟩
theorem adr_mem {es : Es} {k : Str} {a : Addr} (h : (k, a) ∈ es) : a ∈ adrs es := List.mem_map.mpr ⟨(k, a), h, rfl⟩
theorem key_mem {es : Es} {k : Str} {a : Addr} (h : (k, a) ∈ es) : k ∈ keys es := List.mem_map.mpr ⟨(k, a), h, rfl⟩
theorem one_adr {es : Es} {k k' : Str} {a : Addr} (nd : (adrs es).Nodup) (h : (k, a) ∈ es) (h' : (k', a) ∈ es) : k = k' := by
  induction es with
  | nil => cases h
  | cons e es ih =>
    have nd : (e.2 :: adrs es).Nodup := nd
    obtain ⟨n1, n2⟩ := List.nodup_cons.mp nd
    rcases List.mem_cons.mp h with q | h
    · rcases List.mem_cons.mp h' with q' | h'
      · rw [← q] at q'; cases q'; rfl
      · rw [← q] at n1; exact absurd (adr_mem h') n1
    · rcases List.mem_cons.mp h' with q' | h'
      · rw [← q'] at n1; exact absurd (adr_mem h) n1
      · exact ih n2 h h'
theorem one_key {es : Es} {k : Str} {a a' : Addr} (nd : (keys es).Nodup) (h : (k, a) ∈ es) (h' : (k, a') ∈ es) : a = a' := by
  have h1 := valV_es nd h
  rw [valV_es nd h'] at h1
  cases h1
  rfl
theorem Tab.get {H : Hp} {d : Addr} {es : Es} {t : Str → List Str} (T : Tab H d es t) {k : Str} {a : Addr} (h : (k, a) ∈ es) : DGet H d (.str k) (some (.ref a)) := by
  have := DGet.k (k := Sum.inr k) T.dict
  rw [valV_es T.ks h] at this
  exact this
theorem Tab.din {H : Hp} {d : Addr} {es : Es} {t : Str → List Str} (T : Tab H d es t) : d ∉ adrs es := fun h => by
  obtain ⟨⟨k, a⟩, h1, h2⟩ := List.mem_map.mp h
  have h2 : a = d := h2
  subst h2
  have := T.at_ k a h1
  rw [T.dict] at this
  cases this
theorem Tab.some {H : Hp} {d : Addr} {es : Es} {t : Str → List Str} (T : Tab H d es t) {a : Addr} (h : a ∈ adrs es) : ∃ o, H a = some o := by
  obtain ⟨⟨k, a'⟩, h1, h2⟩ := List.mem_map.mp h
  have h2 : a' = a := h2
  subst h2
  exact ⟨_, T.at_ k _ h1⟩
theorem Tab.out {H : Hp} {d : Addr} {es : Es} {t : Str → List Str} (T : Tab H d es t) {a : Addr} (h : H a = none) : a ∉ adrs es := fun m => by
  obtain ⟨o, e⟩ := T.some m
  rw [h] at e
  cases e
/-- the lists stay, the rest may grow -/
theorem Tab.same {H H' : Hp} {d : Addr} {es : Es} {t : Str → List Str} (T : Tab H d es t) (s : Same H H') : Tab H' d es t :=
  ⟨s _ _ T.dict, T.ks, T.nd, fun k a h => s _ _ (T.at_ k a h), T.tn, T.len⟩
theorem Tab.tlen {H : Hp} {d : Addr} {es : Es} {t : Str → List Str} (T : Tab H d es t) {k : Str} (h : k ∈ keys es) : (t k).length ≤ 1000 := by
  obtain ⟨n1, n2⟩ := T.tn k h
  have key : ∀ (l m : List Str), l.Nodup → (∀ y, y ∈ l → y ∈ m) → l.length ≤ m.length := by
    intro l
    induction l with
    | nil => intro m _ _; exact Nat.zero_le _
    | cons x l ih =>
      intro m nd sub
      obtain ⟨a1, a2⟩ := List.nodup_cons.mp nd
      have hx := sub x List.mem_cons_self
      have := ih (m.erase x) a2 fun y hy => (List.mem_erase_of_ne (fun e => a1 (by rw [← e]; exact hy))).mpr (sub y (List.mem_cons_of_mem _ hy))
      rw [List.length_erase_of_mem hx] at this
      have : 0 < m.length := List.length_pos_of_mem hx
      rw [List.length_cons]
      omega
  have := key _ _ n1 n2
  have e : (keys es).length = es.length := List.length_map _
  have := T.len
  omega
def addT (t : Str → List Str) (k y : Str) : Str → List Str := fun j => if j = k then t k ++ [y] else t j
theorem mem_addT {t : Str → List Str} {k y j z : Str} : z ∈ addT t k y j ↔ z ∈ t j ∨ (j = k ∧ z = y) := by
  unfold addT
  by_cases e : j = k
  · subst e; simp
  · simp [e]
theorem Tab.add {H : Hp} {d : Addr} {es : Es} {t : Str → List Str} (T : Tab H d es t) {k y : Str} {a : Addr} (h : (k, a) ∈ es) (hy : y ∈ keys es) (hn : y ∉ t k) : Tab (upd H a (.lst ((t k).map V.str ++ [.str y]))) d es (addT t k y) := by
  refine ⟨?_, T.ks, T.nd, fun k' a' h' => ?_, fun k' hk' => ?_, T.len⟩
  · rw [upd_ne (fun e => T.din (by rw [e]; exact adr_mem h))]; exact T.dict
  · by_cases e : a' = a
    · subst e
      have := one_adr T.nd h h'
      subst this
      rw [upd_same]
      unfold addT
      rw [if_pos rfl, List.map_append]; rfl
    · rw [upd_ne e]
      have ne : ¬ k' = k := fun q => by subst q; exact e (one_key T.ks h' h)
      unfold addT
      rw [if_neg ne]
      exact T.at_ k' a' h'
  · unfold addT
    by_cases e : k' = k
    · subst e
      rw [if_pos rfl]
      obtain ⟨n1, n2⟩ := T.tn k' hk'
      refine ⟨?_, fun z hz => ?_⟩
      · rw [List.nodup_append]
        exact ⟨n1, by simp, fun a ha b hb => by rw [List.mem_singleton.mp hb]; exact fun e => hn (by rw [← e]; exact ha)⟩
      · rcases List.mem_append.mp hz with hz | hz
        · exact n2 z hz
        · rw [List.mem_singleton.mp hz]; exact hy
    · rw [if_neg e]; exact T.tn k' hk'
theorem inV_str {y : Str} : ∀ {l : List Str}, inV (.str y) (l.map V.str) = decide (y ∈ l)
  | [] => by simp [inV]
  | x :: l => by
    have ih := inV_str (y := y) (l := l)
    unfold inV at ih ⊢
    rw [List.map_cons, List.any_cons, ih]
    by_cases e : x = y
    · subst e; simp [eqV]
    · have e' : ¬ y = x := fun q => e q.symm
      simp [eqV, e, e']
theorem flat_strs : ∀ (l : List Str), (l.map V.str).all flatV = true
  | [] => rfl
  | x :: l => by rw [List.map_cons, List.all_cons, flat_strs l]; rfl
theorem era_get {H H' : Hp} {l : List Addr} {b : Addr} {o : HO} (s : Same (era H l) (era H' l)) (h : H b = some o) (m : b ∉ l) : H' b = some o := by
  have := s b o (by rw [era_out m]; exact h)
  exact (era_some this).1

section
variable {P : Program} {w : World} {K : PySem.W.Frag} {mg : Str → Option Value} {base : Heap} {C : Kd → Addr} {n : Nat} {f : Addr} {fd : FuncData}
/-! ### lay -/
def spLay : Sp := fun vs H Q _ => ∃ (d l1 l2 : Addr) (es : Es) (t : Str → List Str) (hs ts : List Str), vs = [.ref d, .ref l1, .ref l2] ∧ Tab H d es t ∧ H l1 = some (.lst (hs.map V.str)) ∧ l1 ∉ adrs es ∧ H l2 = some (.lst (ts.map V.str)) ∧ l2 ∉ adrs es ∧
  (∀ x, x ∈ hs → x ∈ keys es) ∧ (∀ x, x ∈ ts → x ∈ keys es) ∧
  ∀ H' t', Tab H' d es t' → Same (era H (adrs es)) (era H' (adrs es)) → (∀ k y, y ∈ t' k ↔ y ∈ t k ∨ (k ∈ hs ∧ y ∈ ts)) → Q .non H'
theorem scLay : FnScope ["table", "heads", "tails", "head", "tail"] ["table", "heads", "tails"] (defScope sLay) := ⟨rfl, rfl, rfl, by decide +kernel, rfl, by decide +kernel, by decide +kernel⟩
theorem ok_Lay (F : Fun K "lay" "lay" sLay f fd) : FnOk P w K mg base CX0 1 f fd ["table", "heads", "tails"] spLay := by
  refine F.ok scLay (fun vs H Q E h => ?_) (fun cdv A outer s H vs Q E hr h => ?_)
  · obtain ⟨d, l1, l2, es, t, hs, ts, rfl, _⟩ := h
    rfl
  obtain ⟨d, l1, l2, es, t, hs, ts, rfl, TB, h1, m1, h2, m2, sub1, sub2, q⟩ := h
  have hu := hu_of hr
  refine ⟨_, pss_one (ps_for PassesOwn.never rfl (pi_list (pv 1)) (pg_name (i := 3) scLay.nd rfl (Or.inl rfl))
    (pss_one (ps_for PassesOwn.never rfl (pi_list (pv 2)) (pg_name (i := 4) scLay.nd rfl (Or.inl rfl))
      (pss_one (ps_if (pt_cmpR op_notIn_seq (pv 4) (pe_dget hu (pv 0) (pv 3) (fun _ _ => rfl)) (by rfl))
        (pss_one (ps_expr (pe_bm PySem.F.plainAttrs_list PySem.F.slot_list_append PySem.F.type_list_append mt_append (pe_dget hu (pv 0) (pv 3) (fun _ _ => rfl)) (pa_cons (pv 4) pa_nil)))) pss_nil))))), ?_⟩
  refine ⟨_, rfl, l1, rfl, ⟨_, SqL.of h1⟩,
    for_list (K := K) (a := l1) (xs := hs.map V.str) (fun i σ H2 => ∃ v3 v4 t1, σ = [some (.ref d), some (.ref l1), some (.ref l2), v3, v4] ∧ Tab H2 d es t1 ∧ Same (era H (adrs es)) (era H2 (adrs es)) ∧ ∀ k y, y ∈ t1 k ↔ y ∈ t k ∨ (k ∈ hs.take i ∧ y ∈ ts))
      ⟨none, none, t, rfl, TB, Same.refl _, fun k y => by simp⟩ (fun i σ H2 _ ⟨_, _, _, _, _, s2, _⟩ => SqL.of (era_get s2 h1 m1)) ?_ ?_⟩
  · rintro i x σ H2 hx ⟨v3, v4, t1, rfl, TB1, s2, e1⟩
    obtain ⟨hd, hhd, rfl⟩ := str_at hx
    have khd : hd ∈ keys es := sub1 hd (List.mem_of_getElem? hhd)
    obtain ⟨ah, hah⟩ := key_adr khd
    refine ⟨_, rfl, l2, rfl, ⟨_, SqL.of (era_get s2 h2 m2)⟩,
      for_list (K := K) (a := l2) (xs := ts.map V.str) (fun j σ H3 => ∃ v4 t2, σ = [some (.ref d), some (.ref l1), some (.ref l2), some (.str hd), v4] ∧ Tab H3 d es t2 ∧ Same (era H (adrs es)) (era H3 (adrs es)) ∧ ∀ k y, y ∈ t2 k ↔ y ∈ t1 k ∨ (k = hd ∧ y ∈ ts.take j))
        ⟨v4, t1, rfl, TB1, s2, fun k y => by simp⟩ (fun i σ H3 _ ⟨_, _, _, _, s3, _⟩ => SqL.of (era_get s3 h2 m2)) ?_ ?_⟩
    · rintro j x σ H3 hx2 ⟨v5, t2, rfl, TB2, s3, e2⟩
      obtain ⟨tl, htl, rfl⟩ := str_at hx2
      have ktl : tl ∈ keys es := sub2 tl (List.mem_of_getElem? htl)
      have at2 := TB2.at_ hd ah hah
      refine ⟨_, rfl, _, rfl, _, rfl, d, _, rfl, TB2.get hah, ah, _, rfl, .inl (SqL.of at2), rfl, flat_strs _, _, rfl, ?_⟩
      rw [inV_str]
      refine ite2 (fun c => ?_) (fun c => ?_)
      · have c : ¬ tl ∈ t2 hd := fun hm => by simp [hm] at c
        refine ⟨_, rfl, _, rfl, d, _, rfl, TB2.get hah, .inl ⟨rfl, _, SqL.of at2⟩, _, rfl, ah, _, _, rfl, rfl, at2, ?_, ?_⟩
        · rw [List.length_map]
          have := TB2.tlen khd
          exact smaller (by omega)
        · refine ⟨some (.str tl), addT t2 hd tl, rfl, TB2.add hah ktl c, ?_, fun k y => ?_⟩
          · rw [era_upd_in (adr_mem hah)]; exact s3
          · rw [mem_addT, e2, take_snoc htl, List.mem_append, List.mem_singleton, or_assoc]
            refine or_congr_right ?_
            constructor
            · rintro (⟨a, b⟩ | ⟨a, b⟩)
              · exact ⟨a, .inl b⟩
              · exact ⟨a, .inr b⟩
            · rintro ⟨a, b | b⟩
              · exact .inl ⟨a, b⟩
              · exact .inr ⟨a, b⟩
      · have c : tl ∈ t2 hd := by
          by_cases hm : tl ∈ t2 hd
          · exact hm
          · simp [hm] at c
        refine ⟨some (.str tl), t2, rfl, TB2, s3, fun k y => ?_⟩
        rw [e2, take_snoc htl, List.mem_append, List.mem_singleton]
        constructor
        · rintro (h | ⟨a, b⟩)
          · exact .inl h
          · exact .inr ⟨a, .inl b⟩
        · rintro (h | ⟨a, b | b⟩)
          · exact .inl h
          · exact .inr ⟨a, b⟩
          · subst a b; exact (e2 _ _).mp c
    · rintro σ H3 ⟨v5, t2, rfl, TB2, s3, e2⟩
      refine ⟨_, _, t2, rfl, TB2, s3, fun k y => ?_⟩
      rw [e2, e1, List.length_map, List.take_length, take_snoc hhd, List.mem_append, List.mem_singleton, or_assoc]
      refine or_congr_right ?_
      constructor
      · rintro (⟨a, b⟩ | ⟨a, b⟩)
        · exact ⟨.inl a, b⟩
        · exact ⟨.inr a, b⟩
      · rintro ⟨a | a, b⟩
        · exact .inl ⟨a, b⟩
        · exact .inr ⟨a, b⟩
  · rintro σ H2 ⟨v3, v4, t1, rfl, TB1, s2, e1⟩
    refine q H2 t1 TB1 s2 fun k y => ?_
    rw [e1, List.length_map, List.take_length]

/-! ### add_nexts -/
def spAdd (C : Kd → Addr) (n : Nat) (k : Kd) : Sp := fun vs H Q _ => ∃ (a d : Addr) (p : P0) (es : Es) (t : Str → List Str), vs = [.ref a, .ref d] ∧ ObjAt C (era H (adrs es)) a p ∧ kd p = k ∧ Fit n p ∧ Tab H d es t ∧ (∀ x, x ∈ signs p → x ∈ keys es) ∧
  ∀ H' t', Tab H' d es t' → Same (era H (adrs es)) (era H' (adrs es)) → (∀ k y, y ∈ t' k ↔ y ∈ t k ∨ next p k y) → Q .non H'
variable {g1 g2 g3 g4 : Kd → Addr} {gd1 gd2 gd3 gd4 : Kd → FuncData}
theorem scPAdd : FnScope ["self", "table", "one"] ["self", "table"] (defScope sPAdd) := ⟨rfl, rfl, rfl, by decide +kernel, rfl, by decide +kernel, by decide +kernel⟩
theorem ok_PAdd (F : Fun K "add_nexts" "Pattern.add_nexts" sPAdd f fd) (T : Txt K mg C) (D : Disp P w K mg base C "add_nexts" (n + 1) ["self", "table"] (spAdd C n) g1 gd1) (k : Kd) (hk : k ≠ .row ∧ k ≠ .many ∧ k ≠ .some) : FnOk P w K mg base CX0 (n + 2) f fd ["self", "table"] (spAdd C (n + 1) k) := by
  refine F.ok scPAdd (fun vs H Q E h => ?_) (fun cdv A outer s H vs Q E hr h => ?_)
  · obtain ⟨a, d, p, es, t, rfl, _⟩ := h
    rfl
  obtain ⟨a, d, p, es, t, rfl, ob, ek, fit, TB, sub, q⟩ := h
  subst ek
  have e : ∀ x y, next p x y ↔ nextA (kids p) x y := by
    intro x y
    cases p <;> first | (simp [kids, next, nextA]; done) | (simp [kd] at hk)
  cases ob with
  | @mk _ dx l as _ h1 h2 h3 =>
  obtain ⟨h1', m1⟩ := era_some h1
  obtain ⟨h2', m2⟩ := era_some h2
  refine ⟨_, pss_one (ps_for PassesOwn.never rfl (pi_list (pe_fld (pv 0) rfl)) (pg_name (i := 2) scPAdd.nd rfl (Or.inl rfl))
      (pss_one (ps_expr (pe_disp (pv 2) T.cl D hr (by decide +kernel) (by decide +kernel) (pa_cons (pv 1) pa_nil))))), ?_⟩
  refine ⟨_, rfl, a, _, dx, _, _, rfl, h1', T.cl _, T.nW _, flds_within _ _, l, rfl, ⟨_, SqL.of h2'⟩,
    for_list (K := K) (a := l) (xs := as.map V.ref) (fun i σ H2 => ∃ v t1, σ = [some (.ref a), some (.ref d), v] ∧ Tab H2 d es t1 ∧ Same (era H (adrs es)) (era H2 (adrs es)) ∧ ∀ k y, y ∈ t1 k ↔ y ∈ t k ∨ nextA ((kids p).take i) k y)
      ⟨none, t, rfl, TB, Same.refl _, fun k y => by simp [nextA]⟩ (fun i σ H2 _ ⟨_, _, _, _, s2, _⟩ => SqL.of (era_get s2 h2' m2)) ?_ ?_⟩
  · rintro i x σ H2 hx ⟨v, t1, rfl, TB1, s2, e1⟩
    obtain ⟨ai, hai, rfl⟩ := ref_at hx
    obtain ⟨p1, hp1, ob1⟩ := h3.at_ hai
    have hm := List.mem_of_getElem? hp1
    have ob2 : ObjAt C (era H2 (adrs es)) ai p1 := ob1.mono s2
    refine ⟨_, rfl, ai, p1, rfl, ob2.mono (era_same _ _), _, rfl, ai, d, p1, es, t1, rfl, ob2, rfl, fit.kid hm, TB1, fun x hx => sub x ((signs_kid hm).2 x hx), fun H3 t2 TB2 s3 e2 => ?_⟩
    refine ⟨some (.ref ai), t2, rfl, TB2, s2.trans s3, fun k y => ?_⟩
    rw [e2, e1, take_snoc hp1, nextA_snoc, or_assoc]
  · rintro σ H2 ⟨v, t1, rfl, TB1, s2, e1⟩
    refine q H2 t1 TB1 s2 fun k y => ?_
    rw [e1, e, List.take_of_length_le (by rw [List.length_map, h3.len]; exact Nat.le_refl _)]
theorem scSAdd : FnScope ["self", "table", "one"] ["self", "table"] (defScope sSAdd) := ⟨rfl, rfl, rfl, by decide +kernel, rfl, by decide +kernel, by decide +kernel⟩
theorem ok_SAdd {fL : Addr} {fdL : FuncData} (F : Fun K "add_nexts" "Some.add_nexts" sSAdd f fd) (T : Txt K mg C) (D : Disp P w K mg base C "add_nexts" (n + 1) ["self", "table"] (spAdd C n) g1 gd1)
    (DF : Disp P w K mg base C "firsts" n ["self"] (spList C firsts n) g2 gd2) (DL : Disp P w K mg base C "lasts" n ["self"] (spList C lasts n) g3 gd3)
    (FL : Fun K "lay" "lay" sLay fL fdL) (bL : Binds K fdL ["table", "heads", "tails"] []) (mL : mg "lay" = some (.ref fL)) (k : Kd) (hk : k = .many ∨ k = .some) : FnOk P w K mg base CX0 (n + 2) f fd ["self", "table"] (spAdd C (n + 1) k) := by
  have GL : FnOk P w K mg base CX0 1 fL fdL ["table", "heads", "tails"] spLay := ok_Lay FL
  refine F.ok scSAdd (fun vs H Q E h => ?_) (fun cdv A outer s H vs Q E hr h => ?_)
  · obtain ⟨a, d, p, es, t, rfl, _⟩ := h
    rfl
  obtain ⟨a, d, p, es, t, rfl, ob, ek, fit, TB, sub, q⟩ := h
  subst ek
  obtain ⟨p0, e0, e⟩ : ∃ p0, kids p = [p0] ∧ ∀ x y, next p x y ↔ next p0 x y ∨ (x ∈ lasts p0 ∧ y ∈ firsts p0) := by
    cases p <;> first | (exfalso; simp [kd] at hk; done) | exact ⟨_, rfl, fun x y => by rw [next]⟩
  cases ob with
  | @mk _ dx l as _ h1 h2 h3 =>
  obtain ⟨h1', m1⟩ := era_some h1
  obtain ⟨h2', m2⟩ := era_some h2
  have hrn : Room n _ := hr.mono (Nat.le_succ n)
  have hr1 : Room 1 _ := hr.mono (Nat.succ_le_succ (Nat.zero_le n))
  refine ⟨_, pss_one (ps_for PassesOwn.never rfl (pi_list (pe_fld (pv 0) rfl)) (pg_name (i := 2) scSAdd.nd rfl (Or.inl rfl))
      (pss_cons (ps_expr (pe_disp (pv 2) T.cl D hr (by decide +kernel) (by decide +kernel) (pa_cons (pv 1) pa_nil)))
      (pss_one (ps_expr (pe_call GL hr1 rfl mL FL.kp bL .nil pass0 (pa_cons (pv 1) (pa_cons (pe_disp0 (pv 2) T.cl DL hrn (by decide +kernel) (by decide +kernel)) (pa_cons (pe_disp0 (pv 2) T.cl DF hrn (by decide +kernel) (by decide +kernel)) pa_nil)))))))), ?_⟩
  rw [e0] at h3
  refine ⟨_, rfl, a, _, dx, _, _, rfl, h1', T.cl _, T.nW _, flds_within _ _, l, rfl, ⟨_, SqL.of h2'⟩,
    for_list (K := K) (a := l) (xs := as.map V.ref) (fun i σ H2 => ∃ v t1, σ = [some (.ref a), some (.ref d), v] ∧ Tab H2 d es t1 ∧ Same (era H (adrs es)) (era H2 (adrs es)) ∧ ∀ k y, y ∈ t1 k ↔ y ∈ t k ∨ ((i = 1) ∧ next p k y))
      ⟨none, t, rfl, TB, Same.refl _, fun k y => by simp⟩ (fun i σ H2 _ ⟨_, _, _, _, s2, _⟩ => SqL.of (era_get s2 h2' m2)) ?_ ?_⟩
  · rintro i x σ H2 hx ⟨v, t1, rfl, TB1, s2, e1⟩
    obtain ⟨ai, hai, rfl⟩ := ref_at hx
    obtain ⟨p1, hp1, ob1⟩ := h3.at_ hai
    have i0 : i = 0 ∧ p1 = p0 := by
      match i, hp1 with
      | 0, hp1 => exact ⟨rfl, (Option.some.inj hp1).symm⟩
      | i + 1, hp1 => simp at hp1
    obtain ⟨rfl, rfl⟩ := i0
    have hm : p1 ∈ kids p := by rw [e0]; exact List.mem_singleton.mpr rfl
    have ob2 : ObjAt C (era H2 (adrs es)) ai p1 := ob1.mono s2
    have sub1 : ∀ x, x ∈ signs p1 → x ∈ keys es := fun x hx => sub x ((signs_kid hm).2 x hx)
    refine ⟨_, rfl, ai, p1, rfl, ob2.mono (era_same _ _), _, rfl, ai, d, p1, es, t1, rfl, ob2, rfl, fit.kid hm, TB1, sub1, fun H3 t2 TB2 s3 e2 => ?_⟩
    have ob3 : ObjAt C H3 ai p1 := (ob2.mono s3).mono (era_same _ _)
    refine ⟨_, rfl, _, rfl, ai, p1, rfl, ob3, ai, p1, rfl, ob3, rfl, fit.kid hm, fun r4 H4 s4 n4 f4 => ?_⟩
    refine ⟨_, rfl, ai, p1, rfl, ob3.mono s4, ai, p1, rfl, ob3.mono s4, rfl, fit.kid hm, fun r5 H5 s5 n5 f5 => ?_⟩
    have TB4 := TB2.same s4
    refine ⟨d, r4, r5, es, t2, lasts p1, firsts p1, rfl, TB4.same s5, s5 _ _ f4, TB2.out n4, f5, TB4.out n5, fun x hx => sub1 x (lasts_sub p1 x hx), fun x hx => sub1 x (firsts_sub p1 x hx), fun H6 t3 TB6 s6 e3 => ?_⟩
    refine ⟨some (.ref ai), t3, rfl, TB6, (same_era_of (same_era_of (s2.trans s3) s4) s5).trans s6, fun k y => ?_⟩
    rw [e3, e2, e1, e]
    simp [or_assoc]
  · rintro σ H2 ⟨v, t1, rfl, TB1, s2, e1⟩
    refine q H2 t1 TB1 s2 fun k y => ?_
    rw [e1, List.length_map, h3.len]
    simp
theorem scRAdd : FnScope ["self", "table", "heads", "one"] ["self", "table"] (defScope sRAdd) := ⟨rfl, rfl, rfl, by decide +kernel, rfl, by decide +kernel, by decide +kernel⟩
theorem ok_RAdd {fL : Addr} {fdL : FuncData} (F : Fun K "add_nexts" "Row.add_nexts" sRAdd f fd) (T : Txt K mg C) (D : Disp P w K mg base C "add_nexts" (n + 1) ["self", "table"] (spAdd C n) g1 gd1)
    (DF : Disp P w K mg base C "firsts" n ["self"] (spList C firsts n) g2 gd2) (DL : Disp P w K mg base C "lasts" n ["self"] (spList C lasts n) g3 gd3) (DB : Disp P w K mg base C "bare" n ["self"] (spBareM C n) g4 gd4)
    (FL : Fun K "lay" "lay" sLay fL fdL) (bL : Binds K fdL ["table", "heads", "tails"] []) (mL : mg "lay" = some (.ref fL)) : FnOk P w K mg base CX0 (n + 2) f fd ["self", "table"] (spAdd C (n + 1) .row) := by
  have GL : FnOk P w K mg base CX0 1 fL fdL ["table", "heads", "tails"] spLay := ok_Lay FL
  refine F.ok scRAdd (fun vs H Q E h => ?_) (fun cdv A outer s H vs Q E hr h => ?_)
  · obtain ⟨a, d, p, es, t, rfl, _⟩ := h
    rfl
  obtain ⟨a, d, p, es, t, rfl, ob, ek, fit, TB, sub, q⟩ := h
  have e : ∀ x y, next p x y ↔ nextR (kids p) x y := by
    intro x y
    cases p <;> first | (simp [kids, next]; done) | (simp [kd] at ek)
  have eS : signs p = signsL (kids p) := signs_kids (fun x e => by subst e; simp [kd] at ek)
  have hz := fit.2.2
  rw [eS] at hz sub
  have hlr : ∀ i, (lastsR ((kids p).take i)).length ≤ 1000 := fun i => by
    have h1 := len_lasts (.row ((kids p).take i))
    rw [lasts, signs] at h1
    have : (signsL ((kids p).take i)).length ≤ (signsL (kids p)).length := by
      conv => rhs; rw [← List.take_append_drop i (kids p), signsL_append, List.length_append]
      omega
    omega
  have hls : ∀ i x, x ∈ lastsR ((kids p).take i) → x ∈ keys es := fun i x hx => sub x (by
    have := lastsR_sub _ x hx
    rw [← List.take_append_drop i (kids p), signsL_append]
    exact List.mem_append_left _ this)
  cases ob with
  | @mk _ dx l as _ h1 h2 h3 =>
  obtain ⟨h1', m1⟩ := era_some h1
  obtain ⟨h2', m2⟩ := era_some h2
  have hrn : Room n _ := hr.mono (Nat.le_succ n)
  have hr1 : Room 1 _ := hr.mono (Nat.succ_le_succ (Nat.zero_le n))
  refine ⟨_, pss_cons (ps_set (i := 2) scRAdd.nd rfl (Or.inl rfl) (pe_lst pa_nil))
    (pss_one (ps_for PassesOwn.never rfl (pi_list (pe_fld (pv 0) rfl)) (pg_name (i := 3) scRAdd.nd rfl (Or.inl rfl))
      (pss_cons (ps_expr (pe_disp (pv 3) T.cl D hr (by decide +kernel) (by decide +kernel) (pa_cons (pv 1) pa_nil)))
      (pss_cons (ps_expr (pe_call GL hr1 rfl mL FL.kp bL .nil pass0 (pa_cons (pv 1) (pa_cons (pv 2) (pa_cons (pe_disp0 (pv 3) T.cl DF hrn (by decide +kernel) (by decide +kernel)) pa_nil)))))
      (pss_cons (ps_if (pt_not (pt_val (pe_disp0 (pv 3) T.cl DB hrn (by decide +kernel) (by decide +kernel)))) (pss_one (ps_set (i := 2) scRAdd.nd rfl (Or.inl rfl) (pe_lst pa_nil))) pss_nil)
      (pss_one (ps_set (i := 2) scRAdd.nd rfl (Or.inl rfl) (pe_op op_cat (pv 2) (pe_disp0 (pv 3) T.cl DL hrn (by decide +kernel) (by decide +kernel)))))))))), ?_⟩
  refine ⟨small (by show (0:Nat) ≤ 100000; decide), fun r hr' => ?_⟩
  have s1 := same_new hr' (.lst [])
  have TB0 := TB.same s1
  refine ⟨_, rfl, a, _, dx, _, _, rfl, s1 _ _ h1', T.cl _, T.nW _, flds_within _ _, l, rfl, ⟨_, SqL.of (s1 _ _ h2')⟩,
    for_list (K := K) (a := l) (xs := as.map V.ref) (fun i σ H2 => ∃ v r2 t1, σ = [some (.ref a), some (.ref d), some (.ref r2), v] ∧ Tab H2 d es t1 ∧ Same (era H (adrs es)) (era H2 (adrs es)) ∧ H2 r2 = some (.lst ((lastsR ((kids p).take i)).map V.str)) ∧ r2 ∉ adrs es ∧
        ∀ k y, y ∈ t1 k ↔ y ∈ t k ∨ nextR ((kids p).take i) k y)
      ⟨none, r, t, rfl, TB0, era_mono _ s1, upd_same, TB.out hr', fun k y => by simp [nextR]⟩ (fun i σ H2 _ ⟨_, _, _, _, _, s2, _⟩ => SqL.of (era_get s2 h2' m2)) ?_ ?_⟩
  · rintro i x σ H2 hx ⟨v, r2, t1, rfl, TB1, s2, f2, m3, e1⟩
    obtain ⟨ai, hai, rfl⟩ := ref_at hx
    obtain ⟨p1, hp1, ob1⟩ := h3.at_ hai
    have hm := List.mem_of_getElem? hp1
    have ob2 : ObjAt C (era H2 (adrs es)) ai p1 := ob1.mono s2
    have sub1 : ∀ x, x ∈ signs p1 → x ∈ keys es := fun x hx => sub x ((signsL_mem hm).2 x hx)
    refine ⟨_, rfl, ai, p1, rfl, ob2.mono (era_same _ _), _, rfl, ai, d, p1, es, t1, rfl, ob2, rfl, fit.kid hm, TB1, sub1, fun H3 t2 TB2 s3 e2 => ?_⟩
    have ob3 : ObjAt C H3 ai p1 := (ob2.mono s3).mono (era_same _ _)
    have f3 := era_get s3 f2 m3
    refine ⟨_, rfl, _, rfl, _, rfl, ai, p1, rfl, ob3, ai, p1, rfl, ob3, rfl, fit.kid hm, fun r4 H4 s4 n4 f4 => ?_⟩
    have TB4 := TB2.same s4
    refine ⟨d, r2, r4, es, t2, _, firsts p1, rfl, TB4, s4 _ _ f3, m3, f4, TB2.out n4, hls i, fun x hx => sub1 x (firsts_sub p1 x hx), fun H5 t3 TB5 s5 e3 => ?_⟩
    have s25 : Same (era H (adrs es)) (era H5 (adrs es)) := (same_era_of (s2.trans s3) s4).trans s5
    have ob5 : ObjAt C H5 ai p1 := (ob1.mono s25).mono (era_same _ _)
    have f5 := era_get s5 (s4 _ _ f3) m3
    have et : ∀ k y, y ∈ t3 k ↔ y ∈ t k ∨ nextR ((kids p).take (i + 1)) k y := fun k y => by
      rw [e3, e2, e1, take_snoc hp1, nextR_snoc]
      simp only [or_assoc]
    have hb := hlr (i + 1)
    have en : lastsR ((kids p).take (i + 1)) = (if bare p1 = true then lastsR ((kids p).take i) else []) ++ lasts p1 := by rw [take_snoc hp1, lastsR_snoc]
    refine ⟨_, rfl, ai, p1, rfl, ob5, ai, p1, rfl, ob5, rfl, fit.kid hm, fun H6 s6 => ?_⟩
    refine ⟨_, rfl, ?_⟩
    cases hbp : bare p1 with
    | true =>
      rw [hbp, if_pos rfl] at en
      refine iteF ?_
      have ob6 := ob5.mono s6
      refine ⟨_, rfl, _, rfl, ai, p1, rfl, ob6, ai, p1, rfl, ob6, rfl, fit.kid hm, fun r7 H7 s7 n7 f7 => ?_⟩
      refine ⟨r2, r7, _, _, rfl, rfl, s7 _ _ (s6 _ _ f5), f7, ?_, fun r8 n8 => ?_⟩
      · rw [List.length_map, List.length_map]
        rw [en, List.length_append] at hb
        exact small (by omega)
      · have s68 := (s6.trans s7).trans (same_new n8 (.lst ((lastsR ((kids p).take i)).map V.str ++ (lasts p1).map V.str)))
        refine ⟨some (.ref ai), r8, t3, rfl, TB5.same s68, same_era_of s25 s68, ?_, TB5.out ((s6.trans s7).free n8), et⟩
        rw [upd_same, en, List.map_append]
    | false =>
      rw [hbp, if_neg (by decide), List.nil_append] at en
      refine iteT ?_
      refine ⟨small (by show (0:Nat) ≤ 100000; decide), fun r9 n9 => ?_⟩
      have s69 := s6.trans (same_new n9 (.lst []))
      have ob6 := ob5.mono s69
      refine ⟨_, rfl, _, rfl, ai, p1, rfl, ob6, ai, p1, rfl, ob6, rfl, fit.kid hm, fun r7 H7 s7 n7 f7 => ?_⟩
      refine ⟨r9, r7, _, _, rfl, rfl, s7 _ _ upd_same, f7, ?_, fun r8 n8 => ?_⟩
      · rw [List.length_map]
        rw [en] at hb
        exact small (by show 0 + _ ≤ _; omega)
      · have s68 := (s69.trans s7).trans (same_new n8 (.lst ([] ++ (lasts p1).map V.str)))
        refine ⟨some (.ref ai), r8, t3, rfl, TB5.same s68, same_era_of s25 s68, ?_, TB5.out ((s69.trans s7).free n8), et⟩
        rw [upd_same, en, List.nil_append]
  · rintro σ H2 ⟨v, r2, t1, rfl, TB1, s2, f2, m3, e1⟩
    refine q H2 t1 TB1 s2 fun k y => ?_
    rw [e1, e, List.take_of_length_le (by rw [List.length_map, h3.len]; exact Nat.le_refl _)]
end
end FW

end
section
namespace FW
open PySem L2 FF

/-! ### what is new in a heap -/
def fre (H H' : Hp) : Hp := fun b => match H b with | none => H' b | some _ => none
theorem fre_of {H H' : Hp} {b : Addr} {o : HO} (n : H b = none) (h : H' b = some o) : fre H H' b = some o := by unfold fre; rw [n]; exact h
theorem fre_some {H H' : Hp} {b : Addr} {o : HO} (h : fre H H' b = some o) : H b = none ∧ H' b = some o := by
  unfold fre at h
  cases e : H b with
  | none => rw [e] at h; exact ⟨rfl, h⟩
  | some u => rw [e] at h; cases h
theorem fre_same (H H' : Hp) : Same (fre H H') H' := fun _ _ h => (fre_some h).2
theorem fre_era {H H' : Hp} {l : List Addr} (h : ∀ a, a ∈ l → ∃ o, H a = some o) : Same (fre H H') (era H' l) := fun b o q => by
  obtain ⟨n, q⟩ := fre_some q
  rw [era_out fun m => by obtain ⟨u, e⟩ := h b m; rw [n] at e; cases e]
  exact q

theorem at0 {x : V} {r : List V} : atI (x :: r) 0 = some x := atI_nat (j := 0) rfl
theorem at1 {x y : V} {r : List V} : atI (x :: y :: r) 1 = some y := atI_nat (j := 1) rfl
/-! ### the tag of a pattern's tuple -/
def tTag (i : Nat) (s : Str) : TT := fun σ H Q => ∃ a t rest, σ[i]? = some (some (.ref a)) ∧ H a = some (.tup (.str t :: rest)) ∧ Q (decide (t = s)) H
theorem tag_imp {K : PySem.W.Frag} {i : Nat} {s : Str} : ∀ σ H Q, tTag i s σ H Q → tTest (tOp rEq (tOp (rIxT K) (tVar i) (tC (.int 0))) (tC (.str s))) σ H Q := by
  rintro σ H Q ⟨a, t, rest, e, h, q⟩
  refine ⟨_, e, a, _, 0, .str t, rfl, rfl, SqT.of h, at0, rfl, _, rfl, ?_⟩
  have e2 : decide (V.str t = V.str s) = decide (t = s) := by
    by_cases z : t = s
    · subst z; simp
    · simp [z]
  rw [e2]
  exact q
theorem tagF {A B : Prop} {t s : Str} (h : ¬ t = s) (b : B) : if decide (t = s) = true then A else B := by rw [decide_eq_false h]; exact iteF b
theorem tagT {A B : Prop} {t : Str} (a : A) : if decide (t = t) = true then A else B := by rw [decide_eq_true rfl]; exact iteT a

section
variable {P : Program} {w : World} {K : PySem.W.Frag} {mg : Str → Option Value} {base : Heap} {C : Kd → Addr} {n : Nat} {f : Addr} {fd : FuncData}
/-! ### the inits -/
def spPInit (C : Kd → Addr) : Sp := fun vs H Q _ => ∃ (a dx : Addr) (k : Kd) (v : V), vs = [.ref a, v] ∧ H a = some (.ins (C k) dx []) ∧ Q .non (upd H a (.ins (C k) dx (putF "within" v [])))
theorem scPInit : FnScope ["self", "within"] ["self", "within"] (defScope sPInit) := ⟨rfl, rfl, rfl, by decide +kernel, rfl, by decide +kernel, by decide +kernel⟩
theorem ok_PInit (F : Fun K "__init__" "Pattern.__init__" sPInit f fd) (T : Txt K mg C) : FnOk P w K mg base CX0 1 f fd ["self", "within"] (spPInit C) := by
  refine F.ok scPInit (fun vs H Q E h => ?_) (fun cdv A outer s H vs Q E hr h => ?_)
  · obtain ⟨a, dx, k, v, rfl, _⟩ := h
    rfl
  obtain ⟨a, dx, k, v, rfl, ha, q⟩ := h
  refine ⟨_, pss_one (ps_fld (pv 0) (pv 1) rfl), ?_⟩
  exact ⟨_, rfl, _, rfl, a, C k, dx, [], rfl, ha, T.cl k, T.nW k, (by show 0 < 1000; decide), q⟩
def spOInit (C : Kd → Addr) : Sp := fun vs H Q _ => ∃ (a dx : Addr) (x : Str), vs = [.ref a, .str x] ∧ H a = some (.ins (C .one) dx []) ∧
  ∀ H' l, (∀ b o, H b = some o → b ≠ a → H' b = some o) → H l = none → H' l = some (.lst []) → H' a = some (.ins (C .one) dx (flds (.one x) l)) → Q .non H'
theorem scOInit : FnScope ["self", "sign"] ["self", "sign"] (defScope sOInit) := ⟨rfl, rfl, rfl, by decide +kernel, rfl, by decide +kernel, by decide +kernel⟩
theorem ok_OInit {fP : Addr} {fdP : FuncData} (F : Fun K "__init__" "One.__init__" sOInit f fd) (T : Txt K mg C) (FP : Fun K "__init__" "Pattern.__init__" sPInit fP fdP) (bP : Binds K fdP ["self", "within"] []) (cP : ClsFn K (C .pat) "__init__" fP) :
    FnOk P w K mg base CX0 2 f fd ["self", "sign"] (spOInit C) := by
  have GP : FnOk P w K mg base CX0 1 fP fdP ["self", "within"] (spPInit C) := ok_PInit FP T
  refine F.ok scOInit (fun vs H Q E h => ?_) (fun cdv A outer s H vs Q E hr h => ?_)
  · obtain ⟨a, dx, x, rfl, _⟩ := h
    rfl
  obtain ⟨a, dx, x, rfl, ha, q⟩ := h
  refine ⟨_, pss_cons (ps_expr (pe_cfn (pe_glob (v := .ref (C .pat)) rfl T.mgPat rfl) cP GP hr bP pass0 (pa_cons (pv 0) (pa_cons (pe_lst pa_nil) pa_nil)))) (pss_one (ps_fld (pv 0) (pv 1) rfl)), ?_⟩
  refine ⟨rfl, _, rfl, small (by show (0:Nat) ≤ 100000; decide), fun l nl => ?_⟩
  have ha2 := same_new nl (.lst []) _ _ ha
  have hla : l ≠ a := fun e => by rw [e, ha] at nl; cases nl
  refine ⟨a, dx, .one, _, rfl, ha2, ?_⟩
  refine ⟨_, rfl, _, rfl, a, C .one, dx, _, rfl, upd_same, T.cl _, T.nS, (by show 1 < 1000; decide), ?_⟩
  refine q _ l (fun b o hb ne => ?_) nl ?_ upd_same
  · rw [upd_ne ne, upd_ne ne]; exact same_new nl _ _ _ hb
  · rw [upd_ne hla, upd_ne hla, upd_same]

/-! ### pattern_of -/
def Fat (n : Nat) (p : P0) : Prop := depth p < n ∧ Fair p
theorem Fat.kid {p q : P0} (h : Fat (n + 1) p) (k : q ∈ kids p) : Fat n q := ⟨by have := depth_kid k; have := h.1; omega, fair_kid h.2 k⟩
def spPO (C : Kd → Addr) (n : Nat) : Sp := fun vs H Q _ => ∃ (v : V) (p : P0), vs = [v] ∧ PatAt H v p ∧ Fat n p ∧ ∀ a H', Same H H' → ObjAt C (fre H H') a p → Q (.ref a) H'
theorem scPatOf : FnScope ["told", "within", "one"] ["told"] (defScope sPatOf) := ⟨rfl, rfl, rfl, by decide +kernel, rfl, by decide +kernel, by decide +kernel⟩
/-- an object over a new list of objects -/
theorem obj_new {H H2 : Hp} {x dx D : Addr} {as : List Addr} {p : P0} (hp : ∀ y, p ≠ .one y) (s : Same H H2) (nD : H D = none) (hD : H2 D = some (.lst (as.map V.ref))) (nx : H2 x = none) (nd : H2 dx = none) (ne : dx ≠ x) (obs : ObjsAt C (fre H H2) as (kids p)) {o : HO} (ho : o = .ins (C (kd p)) dx (putF "within" (.ref D) [])) :
    Same H (upd (upd (upd H2 dx (.own x)) x (.ins (C (kd p)) dx [])) x o) ∧ ObjAt C (fre H (upd (upd (upd H2 dx (.own x)) x (.ins (C (kd p)) dx [])) x o)) x p := by
  subst ho
  have s2 : Same H2 (upd (upd (upd H2 dx (.own x)) x (.ins (C (kd p)) dx [])) x (.ins (C (kd p)) dx (putF "within" (.ref D) []))) := fun b u h => by
    have h1 : b ≠ x := ne_of_none h nx
    rw [upd_ne h1, upd_ne h1, upd_ne (ne_of_none h nd)]
    exact h
  have ef : flds p D = putF "within" (.ref D) [] := by
    cases p <;> first | rfl | exact absurd rfl (hp _)
  refine ⟨s.trans s2, .mk (dx := dx) (l := D) (as := as) (fre_of (s.free nx) (by rw [upd_same, ef])) (fre_of nD (s2 _ _ hD)) (obs.mono fun b u h => ?_)⟩
  obtain ⟨n1, h1⟩ := fre_some h
  exact fre_of n1 (s2 _ _ h1)
structure Mks (P : Program) (w : World) (K : PySem.W.Frag) (mg : Str → Option Value) (base : Heap) (C : Kd → Addr) (fP : Addr) (fdP : FuncData) (fO : Addr) (fdO : FuncData) : Prop where
  mkC : ∀ k, k ≠ .one → Mk K (C k) fP
  mkO : Mk K (C .one) fO
  okP : FnOk P w K mg base CX0 1 fP fdP ["self", "within"] (spPInit C)
  bP : Binds K fdP ["self", "within"] []
  okO : FnOk P w K mg base CX0 2 fO fdO ["self", "sign"] (spOInit C)
  bO : Binds K fdO ["self", "sign"] []
theorem ok_PatOf {fP fO : Addr} {fdP fdO : FuncData} (F : Fun K "pattern_of" "pattern_of" sPatOf f fd) (T : Txt K mg C) (M : Mks P w K mg base C fP fdP fO fdO) (mF : mg "pattern_of" = some (.ref f)) (bF : Binds K fd ["told"] [])
    (G : FnOk P w K mg base CX0 (n + 3) f fd ["told"] (spPO C n)) : FnOk P w K mg base CX0 (n + 4) f fd ["told"] (spPO C (n + 1)) := by
  refine F.ok scPatOf (fun vs H Q E h => ?_) (fun cdv A outer s H vs Q E hr h => ?_)
  · obtain ⟨v, p, rfl, _⟩ := h
    rfl
  obtain ⟨v, p, rfl, pa, fat, q⟩ := h
  have hr2 : Room 2 _ := hr.mono (by omega)
  have hr3 : Room 3 _ := hr.mono (by omega)
  refine ⟨_, pss_cons (ps_if (PT_imp (pt_cmpR op_eq (pe_ix ix_tup (pv 0) pe_int (fun _ _ => rfl)) pe_str (nomark _)) tag_imp)
      (pss_one (ps_ret (pe_make (M.mkC .pat (fun e => nomatch e)) M.okP hr2 rfl T.mgPat M.bP .nil pass0 (pa_cons (pe_lst pa_nil) pa_nil)))) pss_nil)
    (pss_cons (ps_if (PT_imp (pt_cmpR op_eq (pe_ix ix_tup (pv 0) pe_int (fun _ _ => rfl)) pe_str (nomark _)) tag_imp)
      (pss_one (ps_ret (pe_make M.mkO M.okO hr3 rfl T.mgOne M.bO .nil pass0 (pa_cons (pe_ix ix_tup (pv 0) pe_int (fun _ _ => rfl)) pa_nil)))) pss_nil)
    (pss_cons (ps_if (PT_imp (pt_cmpR op_eq (pe_ix ix_tup (pv 0) pe_int (fun _ _ => rfl)) pe_str (nomark _)) tag_imp)
      (pss_one (ps_ret (pe_make (M.mkC .row (fun e => nomatch e)) M.okP hr2 rfl T.mgRow M.bP .nil pass0 (pa_cons (pe_lc (own := [("one", 2)]) (g := gName 2) (tt := tYes) rfl scPatOf.nd (pi_list (pe_ix ix_tup (pv 0) pe_int (fun _ _ => rfl))) (blkOk_by (own := [("one", 2)]) (N := ["told", "within", "one"]) (sc := defScope sPatOf) (by decide +kernel))
        (fun _ _ _ _ _ => pg_name (i := 2) scPatOf.nd rfl (Or.inl rfl)) (fun _ _ _ _ _ => pts_nil) (fun _ _ _ _ _ => pe_call G hr rfl mF F.kp bF .nil pass0 (pa_cons (pv 2) pa_nil))) pa_nil)))) pss_nil)
    (pss_cons (ps_if (PT_imp (pt_cmpR op_eq (pe_ix ix_tup (pv 0) pe_int (fun _ _ => rfl)) pe_str (nomark _)) tag_imp)
      (pss_one (ps_ret (pe_make (M.mkC .any (fun e => nomatch e)) M.okP hr2 rfl T.mgAny M.bP .nil pass0 (pa_cons (pe_lc (own := [("one", 2)]) (g := gName 2) (tt := tYes) rfl scPatOf.nd (pi_list (pe_ix ix_tup (pv 0) pe_int (fun _ _ => rfl))) (blkOk_by (own := [("one", 2)]) (N := ["told", "within", "one"]) (sc := defScope sPatOf) (by decide +kernel))
        (fun _ _ _ _ _ => pg_name (i := 2) scPatOf.nd rfl (Or.inl rfl)) (fun _ _ _ _ _ => pts_nil) (fun _ _ _ _ _ => pe_call G hr rfl mF F.kp bF .nil pass0 (pa_cons (pv 2) pa_nil))) pa_nil)))) pss_nil)
    (pss_cons (ps_set (i := 1) scPatOf.nd rfl (Or.inl rfl) (pe_lst (pa_cons (pe_call G hr rfl mF F.kp bF .nil pass0 (pa_cons (pe_ix ix_tup (pv 0) pe_int (fun _ _ => rfl)) pa_nil)) pa_nil)))
    (pss_cons (ps_if (PT_imp (pt_cmpR op_eq (pe_ix ix_tup (pv 0) pe_int (fun _ _ => rfl)) pe_str (nomark _)) tag_imp)
      (pss_one (ps_ret (pe_make (M.mkC .maybe (fun e => nomatch e)) M.okP hr2 rfl T.mgMaybe M.bP .nil pass0 (pa_cons (pv 1) pa_nil)))) pss_nil)
    (pss_cons (ps_if (PT_imp (pt_cmpR op_eq (pe_ix ix_tup (pv 0) pe_int (fun _ _ => rfl)) pe_str (nomark _)) tag_imp)
      (pss_one (ps_ret (pe_make (M.mkC .some (fun e => nomatch e)) M.okP hr2 rfl T.mgSome M.bP .nil pass0 (pa_cons (pv 1) pa_nil)))) pss_nil)
    (pss_one (ps_ret (pe_make (M.mkC .many (fun e => nomatch e)) M.okP hr2 rfl T.mgMany M.bP .nil pass0 (pa_cons (pv 1) pa_nil)))))))))), ?_⟩
  -- the comprehension over the parts
  have rows : ∀ {l : Addr} {vs : List V} {ps : List P0} {Qd : Addr → Hp → Prop} {tb : TE} , H l = some (.lst vs) → PatsAt H vs ps → ps.length ≤ 1000 → (∀ q, q ∈ ps → Fat n q) → True := fun _ _ _ _ => trivial
  cases pa with
  | @none a ha =>
    refine ⟨a, _, _, rfl, ha, tagT ?_⟩
    refine ⟨small (by show (0:Nat) ≤ 100000; decide), fun l nl x dx nx nd ne => ?_⟩
    obtain ⟨r1, r2⟩ := obj_new (C := C) (p := .none) (fun y e => nomatch e) (same_new nl (.lst [])) nl (as := []) upd_same nx nd ne .nil rfl
    exact ⟨x, dx, .pat, _, rfl, upd_same, rfl, q x _ r1 r2⟩
  | @one a x0 ha =>
    refine ⟨a, _, _, rfl, ha, tagF (by decide +kernel) ⟨a, _, _, rfl, ha, tagT ?_⟩⟩
    refine ⟨_, rfl, a, _, _, _, rfl, rfl, SqT.of ha, at1, fun x dx nx nd ne => ?_⟩
    refine ⟨x, dx, x0, rfl, upd_same, fun H' l k1 k2 k3 k4 => ⟨rfl, q x H' ?_ ?_⟩⟩
    · intro b o hb
      have hx : b ≠ x := ne_of_none hb nx
      exact k1 b o (by rw [upd_ne hx, upd_ne (ne_of_none hb nd)]; exact hb) hx
    · have hl : H l = none := by
        cases e : H l with
        | none => rfl
        | some o =>
          have hx : l ≠ x := ne_of_none e nx
          rw [upd_ne hx, upd_ne (ne_of_none e nd), e] at k2
          cases k2
      exact .mk (as := []) (fre_of nx k4) (fre_of hl k3) .nil
  | @row a l vs ps ha hl hps =>
    refine ⟨a, _, _, rfl, ha, tagF (by decide +kernel) ⟨a, _, _, rfl, ha, tagF (by decide +kernel) ⟨a, _, _, rfl, ha, tagT ?_⟩⟩⟩
    have hlen : ps.length ≤ 1000 := fair_len fat.2
    refine ⟨_, rfl, a, _, _, _, rfl, rfl, SqT.of ha, at1, l, rfl, ⟨_, SqL.of hl⟩, fun D hD =>
      lc_list (K := K) (a := l) (xs := vs) (fun i H2 => ∃ as, Same H H2 ∧ H2 D = some (.lst (as.map V.ref)) ∧ ObjsAt C (era (fre H H2) [D]) as (ps.take i))
        ⟨[], same_new hD _, upd_same, .nil⟩ (fun i H2 _ ⟨_, s2, _⟩ => SqL.of (s2 _ _ hl)) ?_ ?_⟩
    · rintro i x H2 hx ⟨as, s2, hf, ob⟩
      obtain ⟨p1, hp1, pa1⟩ := hps.at_ hx
      refine ⟨rfl, _, rfl, x, p1, rfl, pa1.mono s2, fat.kid (List.mem_of_getElem? hp1), fun ai H3 s3 ob3 => ?_⟩
      refine ⟨_, s3 _ _ hf, ?_, as ++ [ai], same_upd (s2.trans s3) hD _, ?_, ?_⟩
      · have := ob.len
        rw [List.length_map, this, List.length_take]
        exact smaller (by omega)
      · rw [upd_same, List.map_append]; rfl
      · rw [take_snoc hp1]
        refine ObjsAt.snoc (ob.mono fun b o h => ?_) (ob3.mono fun b o h => ?_)
        · obtain ⟨h, m⟩ := era_some h
          obtain ⟨n1, h⟩ := fre_some h
          rw [era_out m]
          exact fre_of n1 (by rw [upd_ne (fun e => m (by simp [e]))]; exact s3 _ _ h)
        · obtain ⟨n1, h⟩ := fre_some h
          have m : b ≠ D := fun e => by rw [e, hf] at n1; cases n1
          rw [era_out (by simp [m])]
          exact fre_of (s2.free n1) (by rw [upd_ne m]; exact h)
    · rintro H2 ⟨as, s2, hf, ob⟩ x dx nx nd ne
      rw [List.take_of_length_le (by rw [hps.len]; exact Nat.le_refl _)] at ob
      obtain ⟨r1, r2⟩ := obj_new (C := C) (p := .row ps) (fun y e => nomatch e) s2 hD hf nx nd ne (ob.mono (era_same _ _)) rfl
      exact ⟨x, dx, .row, _, rfl, upd_same, rfl, q x _ r1 r2⟩
  | @any a l vs ps ha hl hps =>
    refine ⟨a, _, _, rfl, ha, tagF (by decide +kernel) ⟨a, _, _, rfl, ha, tagF (by decide +kernel) ⟨a, _, _, rfl, ha, tagF (by decide +kernel) ⟨a, _, _, rfl, ha, tagT ?_⟩⟩⟩⟩
    have hlen : ps.length ≤ 1000 := fair_len fat.2
    refine ⟨_, rfl, a, _, _, _, rfl, rfl, SqT.of ha, at1, l, rfl, ⟨_, SqL.of hl⟩, fun D hD =>
      lc_list (K := K) (a := l) (xs := vs) (fun i H2 => ∃ as, Same H H2 ∧ H2 D = some (.lst (as.map V.ref)) ∧ ObjsAt C (era (fre H H2) [D]) as (ps.take i))
        ⟨[], same_new hD _, upd_same, .nil⟩ (fun i H2 _ ⟨_, s2, _⟩ => SqL.of (s2 _ _ hl)) ?_ ?_⟩
    · rintro i x H2 hx ⟨as, s2, hf, ob⟩
      obtain ⟨p1, hp1, pa1⟩ := hps.at_ hx
      refine ⟨rfl, _, rfl, x, p1, rfl, pa1.mono s2, fat.kid (List.mem_of_getElem? hp1), fun ai H3 s3 ob3 => ?_⟩
      refine ⟨_, s3 _ _ hf, ?_, as ++ [ai], same_upd (s2.trans s3) hD _, ?_, ?_⟩
      · have := ob.len
        rw [List.length_map, this, List.length_take]
        exact smaller (by omega)
      · rw [upd_same, List.map_append]; rfl
      · rw [take_snoc hp1]
        refine ObjsAt.snoc (ob.mono fun b o h => ?_) (ob3.mono fun b o h => ?_)
        · obtain ⟨h, m⟩ := era_some h
          obtain ⟨n1, h⟩ := fre_some h
          rw [era_out m]
          exact fre_of n1 (by rw [upd_ne (fun e => m (by simp [e]))]; exact s3 _ _ h)
        · obtain ⟨n1, h⟩ := fre_some h
          have m : b ≠ D := fun e => by rw [e, hf] at n1; cases n1
          rw [era_out (by simp [m])]
          exact fre_of (s2.free n1) (by rw [upd_ne m]; exact h)
    · rintro H2 ⟨as, s2, hf, ob⟩ x dx nx nd ne
      rw [List.take_of_length_le (by rw [hps.len]; exact Nat.le_refl _)] at ob
      obtain ⟨r1, r2⟩ := obj_new (C := C) (p := .any ps) (fun y e => nomatch e) s2 hD hf nx nd ne (ob.mono (era_same _ _)) rfl
      exact ⟨x, dx, .any, _, rfl, upd_same, rfl, q x _ r1 r2⟩
  | @maybe a v0 p0 ha hp0 =>
    refine ⟨a, _, _, rfl, ha, tagF (by decide +kernel) ⟨a, _, _, rfl, ha, tagF (by decide +kernel) ⟨a, _, _, rfl, ha, tagF (by decide +kernel) ⟨a, _, _, rfl, ha, tagF (by decide +kernel) ?_⟩⟩⟩⟩
    refine ⟨_, rfl, a, _, _, _, rfl, rfl, SqT.of ha, at1, v0, p0, rfl, hp0, fat.kid (List.mem_singleton.mpr rfl), fun b1 H2 s2 ob2 => ⟨small (by show (1:Nat) ≤ 100000; decide), fun D nD => ?_⟩⟩
    have s3 := same_new nD (.lst [.ref b1])
    refine ⟨a, _, _, rfl, s3 _ _ (s2 _ _ ha), tagT ?_⟩
    refine ⟨_, rfl, fun x dx nx nd ne => ?_⟩
    obtain ⟨r1, r2⟩ := obj_new (C := C) (p := .maybe p0) (fun y e => nomatch e) (s2.trans s3) (s2.free nD) (as := [b1]) upd_same nx nd ne (.cons (ob2.mono fun b o h => by obtain ⟨n1, h1⟩ := fre_some h; exact fre_of n1 (s3 _ _ h1)) .nil) rfl
    exact ⟨x, dx, .maybe, _, rfl, upd_same, rfl, q x _ r1 r2⟩
  | @some a v0 p0 ha hp0 =>
    refine ⟨a, _, _, rfl, ha, tagF (by decide +kernel) ⟨a, _, _, rfl, ha, tagF (by decide +kernel) ⟨a, _, _, rfl, ha, tagF (by decide +kernel) ⟨a, _, _, rfl, ha, tagF (by decide +kernel) ?_⟩⟩⟩⟩
    refine ⟨_, rfl, a, _, _, _, rfl, rfl, SqT.of ha, at1, v0, p0, rfl, hp0, fat.kid (List.mem_singleton.mpr rfl), fun b1 H2 s2 ob2 => ⟨small (by show (1:Nat) ≤ 100000; decide), fun D nD => ?_⟩⟩
    have s3 := same_new nD (.lst [.ref b1])
    refine ⟨a, _, _, rfl, s3 _ _ (s2 _ _ ha), tagF (by decide +kernel) ⟨a, _, _, rfl, s3 _ _ (s2 _ _ ha), tagT ?_⟩⟩
    refine ⟨_, rfl, fun x dx nx nd ne => ?_⟩
    obtain ⟨r1, r2⟩ := obj_new (C := C) (p := .some p0) (fun y e => nomatch e) (s2.trans s3) (s2.free nD) (as := [b1]) upd_same nx nd ne (.cons (ob2.mono fun b o h => by obtain ⟨n1, h1⟩ := fre_some h; exact fre_of n1 (s3 _ _ h1)) .nil) rfl
    exact ⟨x, dx, .some, _, rfl, upd_same, rfl, q x _ r1 r2⟩
  | @many a v0 p0 ha hp0 =>
    refine ⟨a, _, _, rfl, ha, tagF (by decide +kernel) ⟨a, _, _, rfl, ha, tagF (by decide +kernel) ⟨a, _, _, rfl, ha, tagF (by decide +kernel) ⟨a, _, _, rfl, ha, tagF (by decide +kernel) ?_⟩⟩⟩⟩
    refine ⟨_, rfl, a, _, _, _, rfl, rfl, SqT.of ha, at1, v0, p0, rfl, hp0, fat.kid (List.mem_singleton.mpr rfl), fun b1 H2 s2 ob2 => ⟨small (by show (1:Nat) ≤ 100000; decide), fun D nD => ?_⟩⟩
    have s3 := same_new nD (.lst [.ref b1])
    refine ⟨a, _, _, rfl, s3 _ _ (s2 _ _ ha), tagF (by decide +kernel) ⟨a, _, _, rfl, s3 _ _ (s2 _ _ ha), tagF (by decide +kernel) ?_⟩⟩
    refine ⟨_, rfl, fun x dx nx nd ne => ?_⟩
    obtain ⟨r1, r2⟩ := obj_new (C := C) (p := .many p0) (fun y e => nomatch e) (s2.trans s3) (s2.free nD) (as := [b1]) upd_same nx nd ne (.cons (ob2.mono fun b o h => by obtain ⟨n1, h1⟩ := fre_some h; exact fre_of n1 (s3 _ _ h1)) .nil) rfl
    exact ⟨x, dx, .many, _, rfl, upd_same, rfl, q x _ r1 r2⟩
theorem all_PatOf {fP fO : Addr} {fdP fdO : FuncData} (F : Fun K "pattern_of" "pattern_of" sPatOf f fd) (T : Txt K mg C) (M : Mks P w K mg base C fP fdP fO fdO) (mF : mg "pattern_of" = some (.ref f)) (bF : Binds K fd ["told"] []) :
    ∀ n, FnOk P w K mg base CX0 (n + 3) f fd ["told"] (spPO C n)
  | 0 => none_self fun vs H Q E h => by obtain ⟨v, p, _, _, fat, _⟩ := h; exact Nat.not_lt_zero _ fat.1
  | n + 1 => ok_PatOf F T M mF bF (all_PatOf F T M mF bF n)
end
end FW

end
section
namespace FW
open PySem L2 FF

/-! ### the methods together -/
inductive Md where
  | pinit | psigns | pbare | pfirsts | plasts | padd | oinit | osigns | obare | ofirsts | olasts | rbare | rfirsts | rlasts | radd | abare | afirsts | alasts | mbare | sadd | ybare
def mSigns : Kd → Md | .one => .osigns | _ => .psigns
def mBare : Kd → Md | .pat => .pbare | .one => .obare | .row => .rbare | .any => .abare | .maybe => .mbare | .some => .abare | .many => .ybare
def mFirsts : Kd → Md | .pat => .pfirsts | .one => .ofirsts | .row => .rfirsts | _ => .afirsts
def mLasts : Kd → Md | .pat => .plasts | .one => .olasts | .row => .rlasts | _ => .alasts
def mAdd : Kd → Md | .row => .radd | .some => .sadd | .many => .sadd | _ => .padd
structure Mets (K : PySem.W.Frag) (C : Kd → Addr) (A : Md → Addr) (D : Md → FuncData) : Prop where
  pinit : Fun K "__init__" "Pattern.__init__" sPInit (A .pinit) (D .pinit)
  psigns : Fun K "signs" "Pattern.signs" sPSigns (A .psigns) (D .psigns)
  pbare : Fun K "bare" "Pattern.bare" sPBare (A .pbare) (D .pbare)
  pfirsts : Fun K "firsts" "Pattern.firsts" sPFirsts (A .pfirsts) (D .pfirsts)
  plasts : Fun K "lasts" "Pattern.lasts" sPLasts (A .plasts) (D .plasts)
  padd : Fun K "add_nexts" "Pattern.add_nexts" sPAdd (A .padd) (D .padd)
  oinit : Fun K "__init__" "One.__init__" sOInit (A .oinit) (D .oinit)
  osigns : Fun K "signs" "One.signs" sOSigns (A .osigns) (D .osigns)
  obare : Fun K "bare" "One.bare" sOBare (A .obare) (D .obare)
  ofirsts : Fun K "firsts" "One.firsts" sOFirsts (A .ofirsts) (D .ofirsts)
  olasts : Fun K "lasts" "One.lasts" sOLasts (A .olasts) (D .olasts)
  rbare : Fun K "bare" "Row.bare" sRBare (A .rbare) (D .rbare)
  rfirsts : Fun K "firsts" "Row.firsts" sRFirsts (A .rfirsts) (D .rfirsts)
  rlasts : Fun K "lasts" "Row.lasts" sRLasts (A .rlasts) (D .rlasts)
  radd : Fun K "add_nexts" "Row.add_nexts" sRAdd (A .radd) (D .radd)
  abare : Fun K "bare" "Any.bare" sABare (A .abare) (D .abare)
  afirsts : Fun K "firsts" "Any.firsts" sAFirsts (A .afirsts) (D .afirsts)
  alasts : Fun K "lasts" "Any.lasts" sALasts (A .alasts) (D .alasts)
  mbare : Fun K "bare" "Maybe.bare" sMBare (A .mbare) (D .mbare)
  sadd : Fun K "add_nexts" "Some.add_nexts" sSAdd (A .sadd) (D .sadd)
  ybare : Fun K "bare" "Many.bare" sYBare (A .ybare) (D .ybare)
  meS : ∀ k, Meth K (C k) "signs" (A (mSigns k))
  meB : ∀ k, Meth K (C k) "bare" (A (mBare k))
  meF : ∀ k, Meth K (C k) "firsts" (A (mFirsts k))
  meL : ∀ k, Meth K (C k) "lasts" (A (mLasts k))
  meA : ∀ k, Meth K (C k) "add_nexts" (A (mAdd k))
  cP : ClsFn K (C .pat) "__init__" (A .pinit)
  mkC : ∀ k, k ≠ .one → Mk K (C k) (A .pinit)
  mkO : Mk K (C .one) (A .oinit)
section
variable {P : Program} {w : World} {K : PySem.W.Frag} {mg : Str → Option Value} {base : Heap} {C : Kd → Addr} {A : Md → Addr} {D : Md → FuncData} {n : Nat} {f fL : Addr} {fd fdL : FuncData}
theorem bi1 {x q : Str} {st : Stmt} {f : Addr} {fd : FuncData} {a : Str} (F : Fun K x q st f fd)
    (h : ∀ (kV doc pm : Value) (an : Option Addr) (cdv ct : Value) (us : List Value), us.length = [a].length → bindArgs (PySem.W.fnOf x q (defArgs st) (defBody st) (defScope st) .none kV doc pm an cdv ct) ⟨us, []⟩ = pure ([a].zip us)) : Binds K fd [a] [] := F.binds h
theorem biS (M : Mets K C A D) : ∀ k, Binds K (D (mSigns k)) ["self"] []
  | .one => M.osigns.binds fun _ _ _ _ _ _ us hl => match us, hl with | [_], _ => rfl
  | .pat => M.psigns.binds fun _ _ _ _ _ _ us hl => match us, hl with | [_], _ => rfl
  | .row => M.psigns.binds fun _ _ _ _ _ _ us hl => match us, hl with | [_], _ => rfl
  | .any => M.psigns.binds fun _ _ _ _ _ _ us hl => match us, hl with | [_], _ => rfl
  | .maybe => M.psigns.binds fun _ _ _ _ _ _ us hl => match us, hl with | [_], _ => rfl
  | .some => M.psigns.binds fun _ _ _ _ _ _ us hl => match us, hl with | [_], _ => rfl
  | .many => M.psigns.binds fun _ _ _ _ _ _ us hl => match us, hl with | [_], _ => rfl
theorem biB (M : Mets K C A D) : ∀ k, Binds K (D (mBare k)) ["self"] []
  | .pat => M.pbare.binds fun _ _ _ _ _ _ us hl => match us, hl with | [_], _ => rfl
  | .one => M.obare.binds fun _ _ _ _ _ _ us hl => match us, hl with | [_], _ => rfl
  | .row => M.rbare.binds fun _ _ _ _ _ _ us hl => match us, hl with | [_], _ => rfl
  | .any => M.abare.binds fun _ _ _ _ _ _ us hl => match us, hl with | [_], _ => rfl
  | .maybe => M.mbare.binds fun _ _ _ _ _ _ us hl => match us, hl with | [_], _ => rfl
  | .some => M.abare.binds fun _ _ _ _ _ _ us hl => match us, hl with | [_], _ => rfl
  | .many => M.ybare.binds fun _ _ _ _ _ _ us hl => match us, hl with | [_], _ => rfl
theorem biF (M : Mets K C A D) : ∀ k, Binds K (D (mFirsts k)) ["self"] []
  | .pat => M.pfirsts.binds fun _ _ _ _ _ _ us hl => match us, hl with | [_], _ => rfl
  | .one => M.ofirsts.binds fun _ _ _ _ _ _ us hl => match us, hl with | [_], _ => rfl
  | .row => M.rfirsts.binds fun _ _ _ _ _ _ us hl => match us, hl with | [_], _ => rfl
  | .any => M.afirsts.binds fun _ _ _ _ _ _ us hl => match us, hl with | [_], _ => rfl
  | .maybe => M.afirsts.binds fun _ _ _ _ _ _ us hl => match us, hl with | [_], _ => rfl
  | .some => M.afirsts.binds fun _ _ _ _ _ _ us hl => match us, hl with | [_], _ => rfl
  | .many => M.afirsts.binds fun _ _ _ _ _ _ us hl => match us, hl with | [_], _ => rfl
theorem biL (M : Mets K C A D) : ∀ k, Binds K (D (mLasts k)) ["self"] []
  | .pat => M.plasts.binds fun _ _ _ _ _ _ us hl => match us, hl with | [_], _ => rfl
  | .one => M.olasts.binds fun _ _ _ _ _ _ us hl => match us, hl with | [_], _ => rfl
  | .row => M.rlasts.binds fun _ _ _ _ _ _ us hl => match us, hl with | [_], _ => rfl
  | .any => M.alasts.binds fun _ _ _ _ _ _ us hl => match us, hl with | [_], _ => rfl
  | .maybe => M.alasts.binds fun _ _ _ _ _ _ us hl => match us, hl with | [_], _ => rfl
  | .some => M.alasts.binds fun _ _ _ _ _ _ us hl => match us, hl with | [_], _ => rfl
  | .many => M.alasts.binds fun _ _ _ _ _ _ us hl => match us, hl with | [_], _ => rfl
theorem biA (M : Mets K C A D) : ∀ k, Binds K (D (mAdd k)) ["self", "table"] []
  | .pat => M.padd.binds fun _ _ _ _ _ _ us hl => match us, hl with | [_, _], _ => rfl
  | .one => M.padd.binds fun _ _ _ _ _ _ us hl => match us, hl with | [_, _], _ => rfl
  | .row => M.radd.binds fun _ _ _ _ _ _ us hl => match us, hl with | [_, _], _ => rfl
  | .any => M.padd.binds fun _ _ _ _ _ _ us hl => match us, hl with | [_, _], _ => rfl
  | .maybe => M.padd.binds fun _ _ _ _ _ _ us hl => match us, hl with | [_, _], _ => rfl
  | .some => M.sadd.binds fun _ _ _ _ _ _ us hl => match us, hl with | [_, _], _ => rfl
  | .many => M.sadd.binds fun _ _ _ _ _ _ us hl => match us, hl with | [_, _], _ => rfl
theorem no_spList {g : P0 → List Str} {k : Kd} : ∀ vs H Q E, ¬ spList C g 0 k vs H Q E := fun vs H Q E h => by obtain ⟨a, p, _, _, _, fit, _⟩ := h; exact fit.zero
theorem no_spBareM {k : Kd} : ∀ vs H Q E, ¬ spBareM C 0 k vs H Q E := fun vs H Q E h => by obtain ⟨a, p, _, _, _, fit, _⟩ := h; exact fit.zero
theorem no_spAdd {k : Kd} : ∀ vs H Q E, ¬ spAdd C 0 k vs H Q E := fun vs H Q E h => by obtain ⟨a, d, p, es, t, _, _, _, fit, _⟩ := h; exact fit.zero
abbrev DispS (P : Program) (w : World) (K : PySem.W.Frag) (mg : Str → Option Value) (base : Heap) (C : Kd → Addr) (A : Md → Addr) (D : Md → FuncData) (n : Nat) : Prop := Disp P w K mg base C "signs" n ["self"] (spList C signs n) (fun k => A (mSigns k)) (fun k => D (mSigns k))
abbrev DispB (P : Program) (w : World) (K : PySem.W.Frag) (mg : Str → Option Value) (base : Heap) (C : Kd → Addr) (A : Md → Addr) (D : Md → FuncData) (n : Nat) : Prop := Disp P w K mg base C "bare" n ["self"] (spBareM C n) (fun k => A (mBare k)) (fun k => D (mBare k))
abbrev DispF (P : Program) (w : World) (K : PySem.W.Frag) (mg : Str → Option Value) (base : Heap) (C : Kd → Addr) (A : Md → Addr) (D : Md → FuncData) (n : Nat) : Prop := Disp P w K mg base C "firsts" n ["self"] (spList C firsts n) (fun k => A (mFirsts k)) (fun k => D (mFirsts k))
abbrev DispL (P : Program) (w : World) (K : PySem.W.Frag) (mg : Str → Option Value) (base : Heap) (C : Kd → Addr) (A : Md → Addr) (D : Md → FuncData) (n : Nat) : Prop := Disp P w K mg base C "lasts" n ["self"] (spList C lasts n) (fun k => A (mLasts k)) (fun k => D (mLasts k))
abbrev DispA (P : Program) (w : World) (K : PySem.W.Frag) (mg : Str → Option Value) (base : Heap) (C : Kd → Addr) (A : Md → Addr) (D : Md → FuncData) (n : Nat) : Prop := Disp P w K mg base C "add_nexts" (n + 1) ["self", "table"] (spAdd C n) (fun k => A (mAdd k)) (fun k => D (mAdd k))
theorem dispS (M : Mets K C A D) (T : Txt K mg C) : ∀ n, DispS P w K mg base C A D n
  | 0 => ⟨M.meS, biS M, fun k => none_self no_spList⟩
  | n + 1 => by
    have ih := dispS M T n
    refine ⟨M.meS, biS M, fun k => ?_⟩
    cases k with
    | one => exact ok_OSigns M.osigns T _ rfl
    | pat => exact ok_PSigns M.psigns T ih _ (fun e => nomatch e)
    | row => exact ok_PSigns M.psigns T ih _ (fun e => nomatch e)
    | any => exact ok_PSigns M.psigns T ih _ (fun e => nomatch e)
    | maybe => exact ok_PSigns M.psigns T ih _ (fun e => nomatch e)
    | some => exact ok_PSigns M.psigns T ih _ (fun e => nomatch e)
    | many => exact ok_PSigns M.psigns T ih _ (fun e => nomatch e)
theorem dispB (M : Mets K C A D) (T : Txt K mg C) : ∀ n, DispB P w K mg base C A D n
  | 0 => ⟨M.meB, biB M, fun k => none_self no_spBareM⟩
  | n + 1 => by
    have ih := dispB M T n
    refine ⟨M.meB, biB M, fun k => ?_⟩
    cases k with
    | one => exact ok_OBare M.obare T _ rfl
    | pat => exact ok_PBare M.pbare T _ rfl
    | row => exact ok_RBare M.rbare T ih _ rfl
    | any => exact ok_ABare M.abare T ih _ (.inl rfl)
    | maybe => exact ok_MBare M.mbare T _ rfl
    | some => exact ok_ABare M.abare T ih _ (.inr rfl)
    | many => exact ok_YBare M.ybare T _ rfl
theorem dispF (M : Mets K C A D) (T : Txt K mg C) : ∀ n, DispF P w K mg base C A D n
  | 0 => ⟨M.meF, biF M, fun k => none_self no_spList⟩
  | n + 1 => by
    have ih := dispF M T n
    refine ⟨M.meF, biF M, fun k => ?_⟩
    cases k with
    | one => exact ok_OFirsts M.ofirsts T _ rfl
    | pat => exact ok_PFirsts M.pfirsts T _ rfl
    | row => exact ok_RFirsts M.rfirsts T ih (dispB M T n)
    | any => exact ok_AFirsts M.afirsts T ih _ ⟨(fun e => nomatch e), (fun e => nomatch e), (fun e => nomatch e)⟩
    | maybe => exact ok_AFirsts M.afirsts T ih _ ⟨(fun e => nomatch e), (fun e => nomatch e), (fun e => nomatch e)⟩
    | some => exact ok_AFirsts M.afirsts T ih _ ⟨(fun e => nomatch e), (fun e => nomatch e), (fun e => nomatch e)⟩
    | many => exact ok_AFirsts M.afirsts T ih _ ⟨(fun e => nomatch e), (fun e => nomatch e), (fun e => nomatch e)⟩
theorem dispL (M : Mets K C A D) (T : Txt K mg C) : ∀ n, DispL P w K mg base C A D n
  | 0 => ⟨M.meL, biL M, fun k => none_self no_spList⟩
  | n + 1 => by
    have ih := dispL M T n
    refine ⟨M.meL, biL M, fun k => ?_⟩
    cases k with
    | one => exact ok_OLasts M.olasts T _ rfl
    | pat => exact ok_PLasts M.plasts T _ rfl
    | row => exact ok_RLasts M.rlasts T ih (dispB M T n)
    | any => exact ok_ALasts M.alasts T ih _ ⟨(fun e => nomatch e), (fun e => nomatch e), (fun e => nomatch e)⟩
    | maybe => exact ok_ALasts M.alasts T ih _ ⟨(fun e => nomatch e), (fun e => nomatch e), (fun e => nomatch e)⟩
    | some => exact ok_ALasts M.alasts T ih _ ⟨(fun e => nomatch e), (fun e => nomatch e), (fun e => nomatch e)⟩
    | many => exact ok_ALasts M.alasts T ih _ ⟨(fun e => nomatch e), (fun e => nomatch e), (fun e => nomatch e)⟩
theorem dispA (M : Mets K C A D) (T : Txt K mg C) (FL : Fun K "lay" "lay" sLay fL fdL) (bL : Binds K fdL ["table", "heads", "tails"] []) (mL : mg "lay" = some (.ref fL)) : ∀ n, DispA P w K mg base C A D n
  | 0 => ⟨M.meA, biA M, fun k => none_self no_spAdd⟩
  | n + 1 => by
    have ih := dispA M T FL bL mL n
    refine ⟨M.meA, biA M, fun k => ?_⟩
    cases k with
    | one => exact ok_PAdd M.padd T ih _ ⟨(fun e => nomatch e), (fun e => nomatch e), (fun e => nomatch e)⟩
    | pat => exact ok_PAdd M.padd T ih _ ⟨(fun e => nomatch e), (fun e => nomatch e), (fun e => nomatch e)⟩
    | row => exact ok_RAdd M.radd T ih (dispF M T n) (dispL M T n) (dispB M T n) FL bL mL
    | any => exact ok_PAdd M.padd T ih _ ⟨(fun e => nomatch e), (fun e => nomatch e), (fun e => nomatch e)⟩
    | maybe => exact ok_PAdd M.padd T ih _ ⟨(fun e => nomatch e), (fun e => nomatch e), (fun e => nomatch e)⟩
    | some => exact ok_SAdd M.sadd T ih (dispF M T n) (dispL M T n) FL bL mL _ (.inr rfl)
    | many => exact ok_SAdd M.sadd T ih (dispF M T n) (dispL M T n) FL bL mL _ (.inl rfl)
theorem mks (M : Mets K C A D) (T : Txt K mg C) : Mks P w K mg base C (A .pinit) (D .pinit) (A .oinit) (D .oinit) := by
  have b1 : Binds K (D .pinit) ["self", "within"] [] := M.pinit.binds fun _ _ _ _ _ _ us hl => match us, hl with | [_, _], _ => rfl
  exact ⟨M.mkC, M.mkO, ok_PInit M.pinit T, b1, ok_OInit M.oinit T M.pinit b1 M.cP, M.oinit.binds fun _ _ _ _ _ _ us hl => match us, hl with | [_, _], _ => rfl⟩

/-! ### signs, bare, in_order, firsts, lasts of a told pattern -/
theorem Fit.fat {n : Nat} {p : P0} (h : Fit n p) : Fat n p := ⟨h.1, h.2.1⟩
structure PO (P : Program) (w : World) (K : PySem.W.Frag) (mg : Str → Option Value) (base : Heap) (C : Kd → Addr) (n : Nat) (f : Addr) (fd : FuncData) : Prop where
  ok : FnOk P w K mg base CX0 (n + 3) f fd ["told"] (spPO C n)
  mF : mg "pattern_of" = some (.ref f)
  bF : Binds K fd ["told"] []
  kp : PySem.W.keepIn K (.ref f) = true
def spSignsT (n : Nat) : Sp := fun vs H Q _ => ∃ (v : V) (p : P0), vs = [v] ∧ PatAt H v p ∧ Fit n p ∧ ∀ r H', Same H H' → H r = none → H' r = some (.lst ((signs p).map V.str)) → Q (.ref r) H'
def spBareT (n : Nat) : Sp := fun vs H Q _ => ∃ (v : V) (p : P0), vs = [v] ∧ PatAt H v p ∧ Fit n p ∧ ∀ H', Same H H' → Q (.bl (bare p)) H'
theorem scSigns : FnScope ["pattern"] ["pattern"] (defScope sSigns) := ⟨rfl, rfl, rfl, by decide +kernel, rfl, by decide +kernel, by decide +kernel⟩
theorem scBare : FnScope ["pattern"] ["pattern"] (defScope sBare) := ⟨rfl, rfl, rfl, by decide +kernel, rfl, by decide +kernel, by decide +kernel⟩
variable {fP : Addr} {fdP : FuncData}
theorem ok_Signs (F : Fun K "signs" "signs" sSigns f fd) (T : Txt K mg C) (O : PO P w K mg base C n fP fdP) (S : DispS P w K mg base C A D n) : FnOk P w K mg base CX0 (n + 4) f fd ["pattern"] (spSignsT n) := by
  refine F.ok scSigns (fun vs H Q E h => ?_) (fun cdv A outer s H vs Q E hr h => ?_)
  · obtain ⟨v, p, rfl, _⟩ := h
    rfl
  obtain ⟨v, p, rfl, pa, fit, q⟩ := h
  refine ⟨_, pss_one (ps_ret (pe_disp0 (pe_call O.ok hr rfl O.mF O.kp O.bF .nil pass0 (pa_cons (pv 0) pa_nil)) T.cl S (hr.mono (by omega)) (by decide +kernel) (by decide +kernel))), ?_⟩
  refine ⟨_, rfl, v, p, rfl, pa, fit.fat, fun a H1 s1 ob => ?_⟩
  have ob1 := ob.mono (fre_same _ _)
  refine ⟨a, p, rfl, ob1, a, p, rfl, ob1, rfl, fit, fun r H2 s2 n2 e2 => q r H2 (s1.trans s2) (s1.free n2) e2⟩
theorem ok_Bare (F : Fun K "bare" "bare" sBare f fd) (T : Txt K mg C) (O : PO P w K mg base C n fP fdP) (S : DispB P w K mg base C A D n) : FnOk P w K mg base CX0 (n + 4) f fd ["pattern"] (spBareT n) := by
  refine F.ok scBare (fun vs H Q E h => ?_) (fun cdv A outer s H vs Q E hr h => ?_)
  · obtain ⟨v, p, rfl, _⟩ := h
    rfl
  obtain ⟨v, p, rfl, pa, fit, q⟩ := h
  refine ⟨_, pss_one (ps_ret (pe_disp0 (pe_call O.ok hr rfl O.mF O.kp O.bF .nil pass0 (pa_cons (pv 0) pa_nil)) T.cl S (hr.mono (by omega)) (by decide +kernel) (by decide +kernel))), ?_⟩
  refine ⟨_, rfl, v, p, rfl, pa, fit.fat, fun a H1 s1 ob => ?_⟩
  have ob1 := ob.mono (fre_same _ _)
  refine ⟨a, p, rfl, ob1, a, p, rfl, ob1, rfl, fit, fun H2 s2 => q H2 (s1.trans s2)⟩
def sift (p : P0) (fs : List Str) : List Str := (signs p).filter fun x => decide (x ∈ fs)
theorem mem_sift {p : P0} {fs : List Str} {x : Str} : x ∈ sift p fs ↔ x ∈ signs p ∧ x ∈ fs := by
  unfold sift
  rw [List.mem_filter, decide_eq_true_eq]
def spInOrder (n : Nat) : Sp := fun vs H Q _ => ∃ (v : V) (p : P0) (l : Addr) (fs : List Str), vs = [v, .ref l] ∧ PatAt H v p ∧ Fit n p ∧ H l = some (.lst (fs.map V.str)) ∧
  ∀ r H', Same H H' → H r = none → H' r = some (.lst ((sift p fs).map V.str)) → Q (.ref r) H'
theorem scInOrder : FnScope ["pattern", "found", "sign"] ["pattern", "found"] (defScope sInOrder) := ⟨rfl, rfl, rfl, by decide +kernel, rfl, by decide +kernel, by decide +kernel⟩
theorem ok_InOrder {fS : Addr} {fdS : FuncData} (F : Fun K "in_order" "in_order" sInOrder f fd) (G : FnOk P w K mg base CX0 (n + 4) fS fdS ["pattern"] (spSignsT n)) (mS : mg "signs" = some (.ref fS)) (kS : PySem.W.keepIn K (.ref fS) = true) (bS : Binds K fdS ["pattern"] []) :
    FnOk P w K mg base CX0 (n + 5) f fd ["pattern", "found"] (spInOrder n) := by
  refine F.ok scInOrder (fun vs H Q E h => ?_) (fun cdv A outer s H vs Q E hr h => ?_)
  · obtain ⟨v, p, l, fs, rfl, _⟩ := h
    rfl
  obtain ⟨v, p, l, fs, rfl, pa, fit, hl, q⟩ := h
  refine ⟨_, pss_one (ps_ret (pe_lc (own := [("sign", 2)]) (g := gName 2) (tt := tTest (tOp (rIn K false) (tVar 2) (tVar 1))) rfl scInOrder.nd (pi_list (pe_call G hr rfl mS kS bS .nil pass0 (pa_cons (pv 0) pa_nil))) (blkOk_by (own := [("sign", 2)]) (N := ["pattern", "found", "sign"]) (sc := defScope sInOrder) (by decide +kernel))
      (fun _ _ _ _ _ => pg_name (i := 2) scInOrder.nd rfl (Or.inl rfl)) (fun _ _ _ _ _ => pts_one (pt_cmpR op_in_seq (pv 2) (pv 1) (by rfl))) (fun _ _ _ _ _ => pv 2))), ?_⟩
  refine ⟨_, rfl, v, p, rfl, pa, fit, fun r0 H1 s1 n1 e1 => ?_⟩
  have hlen := fit.2.2
  refine ⟨r0, rfl, ⟨_, SqL.of e1⟩, fun r2 n2 => lc_list (K := K) (a := r0) (xs := (signs p).map V.str) (fun i H2 => Same H1 H2 ∧ H2 r2 = some (.lst ((((signs p).take i).filter fun x => decide (x ∈ fs)).map V.str)))
      ⟨same_new n2 _, upd_same⟩ (fun i H2 _ ⟨s2, _⟩ => SqL.of (s2 _ _ e1)) ?_ ?_⟩
  · rintro i x H2 hx ⟨s2, hf⟩
    obtain ⟨y, hy, rfl⟩ := str_at hx
    refine ⟨rfl, _, rfl, _, rfl, l, _, rfl, .inl (SqL.of (s2 _ _ (s1 _ _ hl))), rfl, flat_strs _, _, rfl, ?_⟩
    rw [inV_str]
    have et : ((signs p).take (i + 1)).filter (fun x => decide (x ∈ fs)) = ((signs p).take i).filter (fun x => decide (x ∈ fs)) ++ (if y ∈ fs then [y] else []) := by
      rw [take_snoc hy, List.filter_append]
      by_cases c : y ∈ fs <;> simp [c]
    refine ite2 (fun c => ?_) (fun c => ?_)
    · have c : y ∈ fs := by simpa using c
      rw [if_pos c] at et
      refine ⟨_, rfl, _, hf, ?_, same_upd s2 n2 _, ?_⟩
      · rw [List.length_map]
        have h1 := List.length_filter_le (fun x => decide (x ∈ fs)) ((signs p).take i)
        rw [List.length_take] at h1
        exact smaller (by omega)
      · rw [upd_same, et, List.map_append]; rfl
    · have c : ¬ y ∈ fs := by simpa using c
      rw [if_neg c, List.append_nil] at et
      exact ⟨s2, by rw [et]; exact hf⟩
  · rintro H2 ⟨s2, hf⟩
    rw [List.length_map, List.take_length] at hf
    exact q r2 H2 (s1.trans s2) (s1.free n2) hf
def spFirstsT (g : P0 → List Str) (n : Nat) : Sp := fun vs H Q _ => ∃ (v : V) (p : P0), vs = [v] ∧ PatAt H v p ∧ Fit n p ∧ ∀ r H', Same H H' → H r = none → H' r = some (.lst ((sift p (g p)).map V.str)) → Q (.ref r) H'
theorem scFirsts : FnScope ["pattern"] ["pattern"] (defScope sFirsts) := ⟨rfl, rfl, rfl, by decide +kernel, rfl, by decide +kernel, by decide +kernel⟩
theorem scLasts : FnScope ["pattern"] ["pattern"] (defScope sLasts) := ⟨rfl, rfl, rfl, by decide +kernel, rfl, by decide +kernel, by decide +kernel⟩
variable {fI : Addr} {fdI : FuncData}
theorem ok_Firsts (F : Fun K "firsts" "firsts" sFirsts f fd) (T : Txt K mg C) (O : PO P w K mg base C n fP fdP) (S : DispF P w K mg base C A D n) (GI : FnOk P w K mg base CX0 (n + 5) fI fdI ["pattern", "found"] (spInOrder n)) (mI : mg "in_order" = some (.ref fI)) (kI : PySem.W.keepIn K (.ref fI) = true) (bI : Binds K fdI ["pattern", "found"] []) :
    FnOk P w K mg base CX0 (n + 6) f fd ["pattern"] (spFirstsT firsts n) := by
  refine F.ok scFirsts (fun vs H Q E h => ?_) (fun cdv A outer s H vs Q E hr h => ?_)
  · obtain ⟨v, p, rfl, _⟩ := h
    rfl
  obtain ⟨v, p, rfl, pa, fit, q⟩ := h
  refine ⟨_, pss_one (ps_ret (pe_call GI hr rfl mI kI bI .nil pass0 (pa_cons (pv 0) (pa_cons (pe_disp0 (pe_call O.ok (hr.mono (by omega)) rfl O.mF O.kp O.bF .nil pass0 (pa_cons (pv 0) pa_nil)) T.cl S (hr.mono (by omega)) (by decide +kernel) (by decide +kernel)) pa_nil)))), ?_⟩
  refine ⟨_, rfl, _, rfl, v, p, rfl, pa, fit.fat, fun a H1 s1 ob => ?_⟩
  have ob1 := ob.mono (fre_same _ _)
  refine ⟨a, p, rfl, ob1, a, p, rfl, ob1, rfl, fit, fun r H2 s2 n2 e2 => ?_⟩
  refine ⟨v, p, r, _, rfl, pa.mono (s1.trans s2), fit, e2, fun r3 H3 s3 n3 e3 => q r3 H3 ((s1.trans s2).trans s3) ((s1.trans s2).free n3) e3⟩
theorem ok_Lasts (F : Fun K "lasts" "lasts" sLasts f fd) (T : Txt K mg C) (O : PO P w K mg base C n fP fdP) (S : DispL P w K mg base C A D n) (GI : FnOk P w K mg base CX0 (n + 5) fI fdI ["pattern", "found"] (spInOrder n)) (mI : mg "in_order" = some (.ref fI)) (kI : PySem.W.keepIn K (.ref fI) = true) (bI : Binds K fdI ["pattern", "found"] []) :
    FnOk P w K mg base CX0 (n + 6) f fd ["pattern"] (spFirstsT lasts n) := by
  refine F.ok scLasts (fun vs H Q E h => ?_) (fun cdv A outer s H vs Q E hr h => ?_)
  · obtain ⟨v, p, rfl, _⟩ := h
    rfl
  obtain ⟨v, p, rfl, pa, fit, q⟩ := h
  refine ⟨_, pss_one (ps_ret (pe_call GI hr rfl mI kI bI .nil pass0 (pa_cons (pv 0) (pa_cons (pe_disp0 (pe_call O.ok (hr.mono (by omega)) rfl O.mF O.kp O.bF .nil pass0 (pa_cons (pv 0) pa_nil)) T.cl S (hr.mono (by omega)) (by decide +kernel) (by decide +kernel)) pa_nil)))), ?_⟩
  refine ⟨_, rfl, _, rfl, v, p, rfl, pa, fit.fat, fun a H1 s1 ob => ?_⟩
  have ob1 := ob.mono (fre_same _ _)
  refine ⟨a, p, rfl, ob1, a, p, rfl, ob1, rfl, fit, fun r H2 s2 n2 e2 => ?_⟩
  refine ⟨v, p, r, _, rfl, pa.mono (s1.trans s2), fit, e2, fun r3 H3 s3 n3 e3 => q r3 H3 ((s1.trans s2).trans s3) ((s1.trans s2).free n3) e3⟩
end
end FW

end
section
namespace FF
section
variable {α : Type}
theorem run_ix {n : α → α → Prop} {l : α → Prop} : ∀ (w : List α) (x : α), Run n l x w ↔ (∀ (j : Nat) (a b : α), (x :: w)[j]? = some a → (x :: w)[j + 1]? = some b → n a b) ∧ (∀ z, (x :: w)[w.length]? = some z → l z)
  | [], x => by
    constructor
    · intro h
      refine ⟨fun j a b _ hb => by simp at hb, fun z hz => ?_⟩
      have : x = z := by simpa using hz
      rw [← this]; exact h
    · rintro ⟨_, h⟩
      exact h x rfl
  | y :: w, x => by
    constructor
    · rintro ⟨h1, h2⟩
      obtain ⟨k1, k2⟩ := (run_ix w y).mp h2
      refine ⟨fun j a b ha hb => ?_, fun z hz => k2 z hz⟩
      cases j with
      | zero =>
        have ea : x = a := by simpa using ha
        have eb : y = b := by simpa using hb
        rw [← ea, ← eb]; exact h1
      | succ j => exact k1 j a b ha hb
    · rintro ⟨h1, h2⟩
      exact ⟨h1 0 x y rfl rfl, (run_ix w y).mpr ⟨fun j a b ha hb => h1 (j + 1) a b ha hb, fun z hz => h2 z hz⟩⟩
theorem acc_ix {b : Prop} {f l : α → Prop} {n : α → α → Prop} {w : List α} (hw : w ≠ []) : Acc b f l n w ↔ (∀ z, w[0]? = some z → f z) ∧ (∀ (j : Nat) (a b : α), w[j]? = some a → w[j + 1]? = some b → n a b) ∧ (∀ z, w[w.length - 1]? = some z → l z) := by
  cases w with
  | nil => exact absurd rfl hw
  | cons x w =>
    constructor
    · rintro ⟨h1, h2⟩
      obtain ⟨k1, k2⟩ := (run_ix w x).mp h2
      exact ⟨fun z hz => by have : x = z := by simpa using hz
                            rw [← this]; exact h1, k1, k2⟩
    · rintro ⟨h1, h2, h3⟩
      exact ⟨h1 x rfl, (run_ix w x).mpr ⟨h2, h3⟩⟩
end
end FF
namespace FW
open PySem L2 FF
theorem at_neg1 {xs : List V} {v : V} (h : xs[xs.length - 1]? = some v) : atI xs (-1) = some v := by
  obtain ⟨hl, e⟩ := List.getElem?_eq_some_iff.mp h
  have hne : xs ≠ [] := fun e => by subst e; simp at hl
  have e2 := List.dropLast_concat_getLast hne
  have e3 : xs.getLast hne = v := by rw [List.getLast_eq_getElem]; exact e
  rw [e3] at e2
  rw [← e2]
  exact atI_last _ _

/-! ### a dict that is being filled -/
structure Bld (H : Hp) (d : Addr) (es : Es) (t : Str → List Str) : Prop where
  dict : H d = some (.dK (kvs es))
  ks : (keys es).Nodup
  nd : (adrs es).Nodup
  at_ : ∀ k a, (k, a) ∈ es → H a = some (.lst ((t k).map V.str))
theorem Bld.same {H H' : Hp} {d : Addr} {es : Es} {t : Str → List Str} (T : Bld H d es t) (s : Same H H') : Bld H' d es t :=
  ⟨s _ _ T.dict, T.ks, T.nd, fun k a h => s _ _ (T.at_ k a h)⟩
theorem valV_no : ∀ {es : Es} {k : Str}, k ∉ keys es → valV (kvs es) (Sum.inr k) = none
  | [], k, _ => rfl
  | (k', a') :: es, k, h => by
    have h : k ∉ k' :: keys es := h
    have ne : ¬ (Sum.inr k' : Key) = Sum.inr k := fun e => by
      cases e
      exact h List.mem_cons_self
    have : valV (kvs ((k', a') :: es)) (Sum.inr k) = valV (kvs es) (Sum.inr k) := valV_neg (p := ((Sum.inr k' : Key), V.ref a')) ne
    rw [this]
    exact valV_no fun m => h (List.mem_cons_of_mem _ m)
theorem Bld.snoc {H H' : Hp} {d : Addr} {es : Es} {t : Str → List Str} (T : Bld H d es t) (s : Same H H') {k : Str} {r : Addr} (hk : k ∉ keys es) (n : H r = none) (hr : H' r = some (.lst ((t k).map V.str))) :
    Bld (upd H' d (.dK (putK (kvs es) (Sum.inr k) (.ref r)))) d (es ++ [(k, r)]) t := by
  have hrd : r ≠ d := fun e => by rw [e, T.dict] at n; cases n
  refine ⟨?_, ?_, ?_, fun k' a' h => ?_⟩
  · rw [upd_same, putK_new _ (valV_no hk)]
    unfold kvs
    rw [List.map_append]; rfl
  · unfold keys
    rw [List.map_append]
    exact nd_snoc T.ks hk
  · unfold adrs
    rw [List.map_append]
    refine nd_snoc T.nd fun m => ?_
    obtain ⟨⟨k', a'⟩, h1, h2⟩ := List.mem_map.mp m
    have h2 : a' = r := h2
    subst h2
    rw [T.at_ k' _ h1] at n
    cases n
  · rcases List.mem_append.mp h with h | h
    · have hd : a' ≠ d := fun e => by
        have := T.at_ k' a' h
        rw [e, T.dict] at this
        cases this
      rw [upd_ne hd]
      exact s _ _ (T.at_ k' a' h)
    · have e := List.mem_singleton.mp h
      have e1 : k' = k := congrArg Prod.fst e
      have e2 : a' = r := congrArg Prod.snd e
      rw [e1, e2, upd_ne hrd]
      exact hr
section
variable {P : Program} {w : World} {K : PySem.W.Frag} {mg : Str → Option Value} {base : Heap} {C : Kd → Addr} {A : Md → Addr} {D : Md → FuncData} {n : Nat} {f fP fI fS : Addr} {fd fdP fdI fdS : FuncData}
def spNexts (n : Nat) : Sp := fun vs H Q _ => ∃ (v : V) (p : P0), vs = [v] ∧ PatAt H v p ∧ Fit n p ∧ (signs p).Nodup ∧
  ∀ d es t H', Same H H' → Tab H' d es t → keys es = signs p → (∀ k y, k ∈ signs p → (y ∈ t k ↔ next p k y)) → Q (.ref d) H'
theorem scNexts : FnScope ["pattern", "table", "sign", "found"] ["pattern"] (defScope sNexts) := ⟨rfl, rfl, rfl, by decide +kernel, rfl, by decide +kernel, by decide +kernel⟩
theorem ok_Nexts (F : Fun K "nexts" "nexts" sNexts f fd) (T : Txt K mg C) (O : PO P w K mg base C n fP fdP) (S : DispA P w K mg base C A D n)
    (GI : FnOk P w K mg base CX0 (n + 5) fI fdI ["pattern", "found"] (spInOrder n)) (mI : mg "in_order" = some (.ref fI)) (kI : PySem.W.keepIn K (.ref fI) = true) (bI : Binds K fdI ["pattern", "found"] [])
    (GS : FnOk P w K mg base CX0 (n + 4) fS fdS ["pattern"] (spSignsT n)) (mS : mg "signs" = some (.ref fS)) (kS : PySem.W.keepIn K (.ref fS) = true) (bS : Binds K fdS ["pattern"] []) :
    FnOk P w K mg base CX0 (n + 6) f fd ["pattern"] (spNexts n) := by
  refine F.ok scNexts (fun vs H Q E h => ?_) (fun cdv A outer s H vs Q E hr h => ?_)
  · obtain ⟨v, p, rfl, _⟩ := h
    rfl
  obtain ⟨v, p, rfl, pa, fit, nd, q⟩ := h
  have hu := hu_of hr
  have hlen := fit.2.2
  refine ⟨_, pss_cons (ps_set (i := 1) scNexts.nd rfl (Or.inl rfl) pe_dnewK)
    (pss_cons (ps_for PassesOwn.never rfl (pi_list (pe_call GS (hr.mono (by omega)) rfl mS kS bS .nil pass0 (pa_cons (pv 0) pa_nil))) (pg_name (i := 2) scNexts.nd rfl (Or.inl rfl)) (pss_one (ps_dput hu (pv 1) (pv 2) (pe_lst pa_nil) rfl)))
    (pss_cons (ps_expr (pe_disp (pe_call O.ok (hr.mono (by omega)) rfl O.mF O.kp O.bF .nil pass0 (pa_cons (pv 0) pa_nil)) T.cl S (hr.mono (by omega)) (by decide +kernel) (by decide +kernel) (pa_cons (pv 1) pa_nil)))
    (pss_cons (ps_set (i := 3) scNexts.nd rfl (Or.inl rfl) pe_dnewK)
    (pss_cons (ps_for PassesOwn.never rfl (pi_list (pe_call GS (hr.mono (by omega)) rfl mS kS bS .nil pass0 (pa_cons (pv 0) pa_nil))) (pg_name (i := 2) scNexts.nd rfl (Or.inl rfl))
      (pss_one (ps_dput hu (pv 3) (pv 2) (pe_call GI hr rfl mI kI bI .nil pass0 (pa_cons (pv 0) (pa_cons (pe_dget hu (pv 1) (pv 2) (fun _ _ => rfl)) pa_nil))) rfl)))
    (pss_one (ps_ret (pv 3))))))), ?_⟩
  -- table = {}
  intro d hd
  have sA := same_new hd (.dK [])
  -- for sign in signs(pattern): table[sign] = []
  refine ⟨_, rfl, v, p, rfl, pa.mono sA, fit, fun r1 H1 s1 n1 e1 => ?_⟩
  have sB := sA.trans s1
  refine ⟨r1, rfl, ⟨_, SqL.of e1⟩, for_list (K := K) (a := r1) (xs := (signs p).map V.str) (fun i σ H2 => ∃ v2 es, σ = [some v, some (.ref d), v2, none] ∧ Same H H2 ∧ H2 r1 = some (.lst ((signs p).map V.str)) ∧ Bld H2 d es (fun _ => []) ∧ keys es = (signs p).take i ∧ (∀ a, a ∈ adrs es → H a = none))
      ⟨none, [], rfl, sB, e1, ⟨s1 _ _ upd_same, List.nodup_nil, List.nodup_nil, fun k a h => by cases h⟩, rfl, fun a h => by cases h⟩ (fun i σ H2 _ ⟨_, _, _, _, h, _⟩ => SqL.of h) ?_ ?_⟩
  · rintro i x σ H2 hx ⟨v2, es, rfl, s2, f2, B2, k2, m2⟩
    obtain ⟨y, hy, rfl⟩ := str_at hx
    have hyk : y ∉ keys es := by
      rw [k2]
      intro m
      obtain ⟨j, hj⟩ := List.mem_iff_getElem?.mp m
      rw [List.getElem?_take] at hj
      split at hj
      · have := nd_ix nd hj hy
        omega
      · cases hj
    have hel : es.length ≤ 1000 := by
      have : (keys es).length = es.length := List.length_map _
      rw [k2, List.length_take] at this
      omega
    refine ⟨small (by show (0:Nat) ≤ 100000; decide), fun l nl => ?_⟩
    have sl := same_new nl (.lst [])
    refine ⟨_, rfl, _, rfl, d, _, rfl, DPut.k (k := Sum.inr y) (sl _ _ B2.dict) ?_, ?_⟩
    · unfold kvs
      rw [List.length_map]
      exact smaller (by omega)
    have hdl : d ≠ l := ne_of_none B2.dict nl
    have hr1 : r1 ≠ d := fun e => by rw [e, B2.dict] at f2; cases f2
    refine ⟨some (.str y), es ++ [(y, l)], rfl, ?_, ?_, B2.snoc sl hyk nl upd_same, ?_, ?_⟩
    · exact same_upd (s2.trans sl) hd _
    · rw [upd_ne hr1]; exact sl _ _ f2
    · unfold keys at k2 ⊢
      rw [List.map_append, k2, take_snoc hy]; rfl
    · intro a ha
      unfold adrs at ha
      rw [List.map_append] at ha
      rcases List.mem_append.mp ha with ha | ha
      · exact m2 a ha
      · rw [List.mem_singleton.mp ha]; exact s2.free nl
  rintro σ H2 ⟨v2, es, rfl, s2, f2, B2, k2, m2⟩
  rw [List.length_map, List.take_length] at k2
  have hel : es.length ≤ 1000 := by
    have : (keys es).length = es.length := List.length_map _
    rw [k2] at this
    omega
  have TB2 : Tab H2 d es (fun _ => []) := ⟨B2.dict, B2.ks, B2.nd, B2.at_, fun k _ => ⟨List.nodup_nil, fun y hy => by cases hy⟩, hel⟩
  -- pattern_of(pattern).add_nexts(table)
  refine ⟨_, rfl, v, p, rfl, pa.mono s2, fit.fat, fun a H3 s3 ob => ?_⟩
  have ob3 : ObjAt C (era H3 (adrs es)) a p := ob.mono (fre_era fun a ha => TB2.some ha)
  refine ⟨a, p, rfl, ob.mono (fre_same _ _), _, rfl, a, d, p, es, _, rfl, ob3, rfl, fit, TB2.same s3, fun x hx => by rw [k2]; exact hx, fun H4 t TB4 s4 e4 => ?_⟩
  have sH4 : Same H H4 := fun b o hb => era_get s4 (s3 _ _ (s2 _ _ hb)) fun m => by rw [m2 b m] at hb; cases hb
  have et : ∀ k y, y ∈ t k ↔ next p k y := fun k y => by rw [e4]; simp
  -- found = {}
  intro d2 hd2
  have s5 := same_new hd2 (.dK [])
  -- for sign in signs(pattern): found[sign] = in_order(pattern, table[sign])
  refine ⟨_, rfl, v, p, rfl, pa.mono (sH4.trans s5), fit, fun r6 H6 s6 n6 e6 => ?_⟩
  have s46 := s5.trans s6
  refine ⟨r6, rfl, ⟨_, SqL.of e6⟩, for_list (K := K) (a := r6) (xs := (signs p).map V.str) (fun i σ H7 => ∃ v2 es2, σ = [some v, some (.ref d), v2, some (.ref d2)] ∧ Same H4 H7 ∧ H7 r6 = some (.lst ((signs p).map V.str)) ∧ Bld H7 d2 es2 (fun k => sift p (t k)) ∧ keys es2 = (signs p).take i)
      ⟨v2, [], rfl, s46, e6, ⟨s6 _ _ upd_same, List.nodup_nil, List.nodup_nil, fun k a h => by cases h⟩, rfl⟩ (fun i σ H2 _ ⟨_, _, _, _, h, _⟩ => SqL.of h) ?_ ?_⟩
  · rintro i x σ H7 hx ⟨v3, es2, rfl, s7, f7, B7, k7⟩
    obtain ⟨y, hy, rfl⟩ := str_at hx
    have hyk : y ∉ keys es2 := by
      rw [k7]
      intro m
      obtain ⟨j, hj⟩ := List.mem_iff_getElem?.mp m
      rw [List.getElem?_take] at hj
      split at hj
      · have := nd_ix nd hj hy
        omega
      · cases hj
    have hel2 : es2.length ≤ 1000 := by
      have : (keys es2).length = es2.length := List.length_map _
      rw [k7, List.length_take] at this
      omega
    have yk : y ∈ keys es := by rw [k2]; exact List.mem_of_getElem? hy
    obtain ⟨ay, hay⟩ := key_adr yk
    have TB7 := TB4.same s7
    refine ⟨_, rfl, _, rfl, _, rfl, d, _, rfl, TB7.get hay, v, p, ay, t y, rfl, pa.mono (sH4.trans s7), fit, TB7.at_ y ay hay, fun r8 H8 s8 n8 e8 => ?_⟩
    refine ⟨_, rfl, _, rfl, d2, _, rfl, DPut.k (k := Sum.inr y) (s8 _ _ B7.dict) ?_, ?_⟩
    · unfold kvs
      rw [List.length_map]
      exact smaller (by omega)
    have hr6 : r6 ≠ d2 := fun e => by rw [e, B7.dict] at f7; cases f7
    refine ⟨some (.str y), es2 ++ [(y, r8)], rfl, same_upd (s7.trans s8) hd2 _, ?_, B7.snoc s8 hyk n8 e8, ?_⟩
    · rw [upd_ne hr6]; exact s8 _ _ f7
    · unfold keys at k7 ⊢
      rw [List.map_append, k7, take_snoc hy]; rfl
  · rintro σ H7 ⟨v3, es2, rfl, s7, f7, B7, k7⟩
    rw [List.length_map, List.take_length] at k7
    have hel2 : es2.length ≤ 1000 := by
      have : (keys es2).length = es2.length := List.length_map _
      rw [k7] at this
      omega
    refine ⟨_, rfl, q d2 es2 (fun k => sift p (t k)) H7 (sH4.trans s7) ⟨B7.dict, B7.ks, B7.nd, B7.at_, fun k hk => ⟨List.Pairwise.filter _ nd, fun y hy => by rw [k7]; exact (mem_sift.mp hy).1⟩, hel2⟩ k7 fun k y hk => ?_⟩
    rw [mem_sift, et]
    exact ⟨fun h => h.2, fun h => ⟨(next_sub p k y h).2, h⟩⟩

/-! ### fits -/
def spFits (n : Nat) : Sp := fun vs H Q _ => ∃ (v : V) (p : P0) (l : Addr) (ws : List Str), vs = [v, .ref l] ∧ PatAt H v p ∧ Fit n p ∧ (signs p).Nodup ∧ H l = some (.lst (ws.map V.str)) ∧ ws.length ≤ 100000 ∧
  ∀ b H', Same H H' → (b = true ↔ Lang p ws) → Q (.bl b) H'
theorem scFits : FnScope ["pattern", "word", "table", "k"] ["pattern", "word"] (defScope sFits) := ⟨rfl, rfl, rfl, by decide +kernel, rfl, by decide +kernel, by decide +kernel⟩
theorem ok_Fits {fB fN fF fL : Addr} {fdB fdN fdF fdL : FuncData} (F : Fun K "fits" "fits" sFits f fd) (T : Txt K mg C)
    (GB : FnOk P w K mg base CX0 (n + 4) fB fdB ["pattern"] (spBareT n)) (mB : mg "bare" = some (.ref fB)) (kB : PySem.W.keepIn K (.ref fB) = true) (bB : Binds K fdB ["pattern"] [])
    (GN : FnOk P w K mg base CX0 (n + 6) fN fdN ["pattern"] (spNexts n)) (mN : mg "nexts" = some (.ref fN)) (kN : PySem.W.keepIn K (.ref fN) = true) (bN : Binds K fdN ["pattern"] [])
    (GF : FnOk P w K mg base CX0 (n + 6) fF fdF ["pattern"] (spFirstsT firsts n)) (mF : mg "firsts" = some (.ref fF)) (kF : PySem.W.keepIn K (.ref fF) = true) (bF : Binds K fdF ["pattern"] [])
    (GL : FnOk P w K mg base CX0 (n + 6) fL fdL ["pattern"] (spFirstsT lasts n)) (mL : mg "lasts" = some (.ref fL)) (kL : PySem.W.keepIn K (.ref fL) = true) (bL : Binds K fdL ["pattern"] []) :
    FnOk P w K mg base CX0 (n + 7) f fd ["pattern", "word"] (spFits n) := by
  refine F.ok scFits (fun vs H Q E h => ?_) (fun cdv A outer s H vs Q E hr h => ?_)
  · obtain ⟨v, p, l, ws, rfl, _⟩ := h
    rfl
  obtain ⟨v, p, l, ws, rfl, pa, fit, nd, hl, hlw, q⟩ := h
  have hu := hu_of hr
  refine ⟨_, pss_cons (ps_if (pt_cmpR op_eq (pe_callB call_len_seq (by rfl) T.len PySem.boot_len (pa_cons (pv 1) pa_nil)) pe_int (nomark _)) (pss_one (ps_ret (pe_call GB (hr.mono (by omega)) rfl mB kB bB .nil pass0 (pa_cons (pv 0) pa_nil)))) pss_nil)
    (pss_cons (ps_set (i := 2) scFits.nd rfl (Or.inl rfl) (pe_call GN hr rfl mN kN bN .nil pass0 (pa_cons (pv 0) pa_nil)))
    (pss_cons (ps_if (PW.pt (pw_or (pt_cmpR op_notIn_seq (pe_ix ix_list (pv 1) pe_int (fun _ _ => rfl)) (pe_call GF hr rfl mF kF bF .nil pass0 (pa_cons (pv 0) pa_nil)) (by rfl))
        (pw_or1 (pt_cmpR op_notIn_seq (pe_ix ix_list (pv 1) (pe_un un_neg pe_int) (fun _ _ => rfl)) (pe_call GL hr rfl mL kL bL .nil pass0 (pa_cons (pv 0) pa_nil)) (by rfl)))))
      (pss_one (ps_ret pe_bl)) pss_nil)
    (pss_cons (ps_for PassesOwn.never rfl (pi_range2 (by rfl) T.range (pa_cons pe_int (pa_cons (pe_callB call_len_seq (by rfl) T.len PySem.boot_len (pa_cons (pv 1) pa_nil)) pa_nil))) (pg_name (i := 3) scFits.nd rfl (Or.inl rfl))
      (pss_one (ps_if (pt_cmpR op_notIn_seq (pe_ix ix_list (pv 1) (pv 3) (fun _ _ => rfl)) (pe_dget hu (pv 2) (pe_ix ix_list (pv 1) (pe_op op_sub (pv 3) pe_int) (fun _ _ => rfl)) (fun _ _ => rfl)) (by rfl)) (pss_one (ps_ret pe_bl)) pss_nil)))
    (pss_one (ps_ret pe_bl))))), ?_⟩
  have key := lang_acc p nd ws
  refine ⟨_, rfl, l, _, rfl, .inl (SqL.of hl), rfl, _, rfl, ?_⟩
  refine ite2 (fun c => ?_) (fun c => ?_)
  · have c : V.int ((ws.map V.str).length : Nat) = V.int 0 := of_decide_eq_true c
    have e0 : ws = [] := by
      injection c with c
      rw [List.length_map] at c
      exact List.eq_nil_of_length_eq_zero (by omega)
    refine ⟨_, rfl, v, p, rfl, pa, fit, fun H1 s1 => q _ H1 s1 ?_⟩
    rw [key, e0]
    exact Iff.rfl
  have hne : ws ≠ [] := fun e => by subst e; exact c (decide_eq_true rfl)
  have hpos : 0 < ws.length := List.length_pos_iff.mpr hne
  unfold AccP at key
  rw [acc_ix hne] at key
  refine ⟨_, rfl, v, p, rfl, pa, fit, nd, fun d es t H1 s1 TB ek et => ?_⟩
  obtain ⟨x0, hx0⟩ : ∃ x, ws[0]? = some x := ⟨ws[0], List.getElem?_eq_getElem hpos⟩
  obtain ⟨xl, hxl⟩ : ∃ x, ws[ws.length - 1]? = some x := ⟨ws[ws.length - 1], List.getElem?_eq_getElem (by omega)⟩
  have m0 : (ws.map V.str)[0]? = some (.str x0) := by rw [List.getElem?_map, hx0]; rfl
  have ml : (ws.map V.str)[(ws.map V.str).length - 1]? = some (.str xl) := by rw [List.length_map, List.getElem?_map, hxl]; rfl
  have hl1 := s1 _ _ hl
  refine ⟨_, rfl, l, _, _, _, rfl, rfl, SqL.of hl1, atI_nat (j := 0) m0, _, rfl, v, p, rfl, pa.mono s1, fit, fun r2 H2 s2 n2 e2 => ?_⟩
  refine ⟨r2, _, rfl, .inl (SqL.of e2), rfl, flat_strs _, _, rfl, ?_⟩
  rw [inV_str]
  have s12 := s1.trans s2
  refine ite2 (fun c1 => ?_) (fun c1 => ?_)
  · have c1 : ¬ x0 ∈ sift p (firsts p) := by simpa using c1
    refine q false H2 s12 ⟨(fun e => nomatch e), fun hL => ?_⟩
    have := (key.mp hL).1 x0 hx0
    exact absurd (mem_sift.mpr ⟨firsts_sub p x0 this, this⟩) c1
  have c1 : x0 ∈ sift p (firsts p) := by simpa using c1
  have hl2 := s2 _ _ hl1
  refine ⟨_, rfl, _, rfl, l, _, _, _, rfl, rfl, SqL.of hl2, at_neg1 ml, _, rfl, v, p, rfl, pa.mono s12, fit, fun r3 H3 s3 n3 e3 => ?_⟩
  refine ⟨r3, _, rfl, .inl (SqL.of e3), rfl, flat_strs _, _, rfl, ?_⟩
  rw [inV_str]
  have s13 := s12.trans s3
  refine ite2 (fun c2 => ?_) (fun c2 => ?_)
  · have c2 : ¬ xl ∈ sift p (lasts p) := by simpa using c2
    refine q false H3 s13 ⟨(fun e => nomatch e), fun hL => ?_⟩
    have := (key.mp hL).2.2 xl hxl
    exact absurd (mem_sift.mpr ⟨lasts_sub p xl this, this⟩) c2
  have c2 : xl ∈ sift p (lasts p) := by simpa using c2
  have hl3 := s3 _ _ hl2
  have TB3 := TB.same (s2.trans s3)
  refine ⟨_, rfl, l, _, rfl, .inl (SqL.of hl3), _, _, rfl, ⟨by decide, by decide, ?_, ?_⟩, ?_⟩
  · omega
  · rw [List.length_map]; omega
  rw [List.length_map]
  refine for_range (lo := 1) (n := (((ws.length : Nat) : Int) - 1).toNat) (fun i σ H4 => ∃ v3, σ = [some v, some (.ref l), some (.ref d), v3] ∧ H4 = H3 ∧ ∀ j a b, j < i → ws[j]? = some a → ws[j + 1]? = some b → next p a b)
    ⟨none, rfl, rfl, fun j a b hj => absurd hj (Nat.not_lt_zero _)⟩ ?_ ?_
  · rintro i σ H4 hi ⟨v3, rfl, rfl, hc⟩
    obtain ⟨a, ha⟩ : ∃ x, ws[i]? = some x := ⟨ws[i]'(by omega), List.getElem?_eq_getElem _⟩
    obtain ⟨b, hb⟩ : ∃ x, ws[i + 1]? = some x := ⟨ws[i + 1]'(by omega), List.getElem?_eq_getElem _⟩
    have ma : (ws.map V.str)[i]? = some (.str a) := by rw [List.getElem?_map, ha]; rfl
    have mb : (ws.map V.str)[i + 1]? = some (.str b) := by rw [List.getElem?_map, hb]; rfl
    have hak : a ∈ signs p := by
      cases i with
      | zero =>
        rw [hx0] at ha
        cases ha
        exact (mem_sift.mp c1).1
      | succ i =>
        obtain ⟨a', ha'⟩ : ∃ x, ws[i]? = some x := ⟨ws[i]'(by omega), List.getElem?_eq_getElem _⟩
        exact (next_sub p a' a (hc i a' a (Nat.lt_succ_self i) ha' ha)).2
    have hak2 : a ∈ keys es := by rw [ek]; exact hak
    obtain ⟨aa, haa⟩ := key_adr hak2
    refine ⟨_, rfl, _, rfl, l, _, _, _, rfl, rfl, SqL.of hl3, at_of (j := i + 1) (by omega) mb, _, rfl, _, rfl, _, rfl, _, _, rfl, rfl, l, _, _, _, rfl, rfl, SqL.of hl3, at_of (j := i) (by omega) ma, d, _, rfl, TB3.get haa, aa, _, rfl, .inl (SqL.of (TB3.at_ a aa haa)), rfl, flat_strs _, _, rfl, ?_⟩
    rw [inV_str]
    refine ite2 (fun c3 => ?_) (fun c3 => ?_)
    · have c3 : ¬ b ∈ t a := by simpa using c3
      refine q false _ s13 ⟨(fun e => nomatch e), fun hL => ?_⟩
      exact absurd ((et a b hak).mpr ((key.mp hL).2.1 i a b ha hb)) c3
    · have c3 : b ∈ t a := by simpa using c3
      refine ⟨some (.int (1 + (i : Int))), rfl, rfl, fun j a' b' hj ha' hb' => ?_⟩
      by_cases e : j = i
      · subst e
        rw [ha] at ha'
        rw [hb] at hb'
        cases ha'
        cases hb'
        exact (et a b hak).mp c3
      · exact hc j a' b' (by omega) ha' hb'
  · rintro σ H4 ⟨v3, rfl, rfl, hc⟩
    refine q true _ s13 ⟨fun _ => key.mpr ⟨fun z hz => ?_, fun j a b ha hb => ?_, fun z hz => ?_⟩, fun _ => rfl⟩
    · rw [hx0] at hz
      cases hz
      exact (mem_sift.mp c1).2
    · refine hc j a b ?_ ha hb
      have := (List.getElem?_eq_some_iff.mp hb).1
      omega
    · rw [hxl] at hz
      cases hz
      exact (mem_sift.mp c2).2
end
end FW

end
section
namespace FW
open PySem L2 FF
section
variable {X : Cx}
/-- xs == [] -/
theorem op_eqE (hu : X.A.units < cLine) : OpR X (compareOp .Eq) (fun x y H Q => ∃ a b xs, x = V.ref a ∧ y = V.ref b ∧ SqL X.K H a xs ∧ SqL X.K H b [] ∧ Q (.bl (xs.isEmpty)) H) := by
  intro pins s σ H x y v u Q I rx ry h
  obtain ⟨a, b, xs, rfl, rfl, ha, hb, q⟩ := h
  cases rx
  cases ry
  obtain ⟨its, r, pl, _⟩ := I.list ha
  obtain ⟨its2, r2, pl2, _⟩ := I.list hb
  cases r2
  cases r with
  | nil =>
    refine SeqAt.RcAt.lists (e := fun _ => true) pl.isList pl2.isList rfl hu (fun j h1 _ => absurd h1 (by simp)) _ _ _ _ ?_
    exact ⟨.bl true, H, I, rfl, q⟩
  | cons r1 r2 =>
    refine SeqAt.RcAt.lists_lengths pl.isList pl2.isList (by simp) hu _ _ _ _ ?_
    exact ⟨.bl false, H, I, rfl, q⟩
end
theorem room_u {k : Nat} {A : Around} (hr : Room k A) : A.units < cLine := hr.units0
def nl (a : Addr) (xs : List V) (H : Hp) : Prop := H a = some (.lst xs)

section
variable {P : Program} {w : World} {K : PySem.W.Frag} {mg : Str → Option Value} {base : Heap} {C : Kd → Addr} {f : Addr} {fd : FuncData}
/-! ### _law_cell_at -/
def spCellAt (K : PySem.W.Frag) : Sp := fun vs H Q _ => ∃ (a : Addr) (ns : List Int) (k : Nat), vs = [.ref a, .int k] ∧ SqL K H a (ns.map V.int) ∧ Q (.int (ns.getD k 0)) H
theorem scCellAt : FnScope ["_law_script", "_law_k"] ["_law_script", "_law_k"] (defScope sCellAt) := ⟨rfl, rfl, rfl, by decide +kernel, rfl, by decide +kernel, by decide +kernel⟩
theorem ok_CellAt (F : Fun K "_law_cell_at" "_law_cell_at" sCellAt f fd) (T : Txt K mg C) : FnOk P w K mg base CX0 1 f fd ["_law_script", "_law_k"] (spCellAt K) := by
  refine F.ok scCellAt (fun vs H Q E h => ?_) (fun cdv A outer s H vs Q E hr h => ?_)
  · obtain ⟨a, ns, k, rfl, _⟩ := h
    rfl
  obtain ⟨a, ns, k, rfl, hS, q⟩ := h
  refine ⟨_, pss_cons (ps_if (pt_cmpR op_lt (pv 1) (pe_callB call_len_seq (by rfl) T.len PySem.boot_len (pa_cons (pv 0) pa_nil)) (nomark _)) (pss_one (ps_ret (pe_ix ix_list (pv 0) (pv 1) (fun _ _ => rfl)))) pss_nil) (pss_one (ps_ret pe_int)), ?_⟩
  refine ⟨_, rfl, _, rfl, a, _, rfl, .inl hS, _, _, rfl, rfl, _, rfl, ?_⟩
  rw [List.length_map]
  refine ite2 (fun c => ?_) (fun c => ?_)
  · have c : (k : Int) < (ns.length : Nat) := of_decide_eq_true c
    have hk : k < ns.length := by omega
    have e : ns[k]? = some (ns.getD k 0) := by rw [List.getElem?_eq_getElem hk, List.getD_eq_getElem?_getD, List.getElem?_eq_getElem hk]; rfl
    exact ⟨_, rfl, _, rfl, a, _, _, _, rfl, rfl, hS, atI_nat (j := k) (by rw [List.getElem?_map, e]; rfl), q⟩
  · have c : ¬ (k : Int) < (ns.length : Nat) := fun z => c (decide_eq_true z)
    have e : ns.getD k 0 = 0 := by rw [List.getD_eq_getElem?_getD, List.getElem?_eq_none (by omega)]; rfl
    rw [e] at q
    exact q
/-! ### _law_mix -/
def spMix : Sp := fun vs H Q _ => ∃ (c t : Int), vs = [.int c, .int t] ∧ 0 ≤ t ∧ t ≤ 100000 ∧ ∀ r : Int, 0 ≤ r → r < 2147483629 → Q (.int r) H
theorem scMix : FnScope ["_law_cell", "_law_turn", "_law_number"] ["_law_cell", "_law_turn"] (defScope sMix) := ⟨rfl, rfl, rfl, by decide +kernel, rfl, by decide +kernel, by decide +kernel⟩
theorem ok_Mix (F : Fun K "_law_mix" "_law_mix" sMix f fd) : FnOk P w K mg base CX0 1 f fd ["_law_cell", "_law_turn"] spMix := by
  refine F.ok scMix (fun vs H Q E h => ?_) (fun cdv A outer s H vs Q E hr h => ?_)
  · obtain ⟨c, t, rfl, _⟩ := h
    rfl
  obtain ⟨c, t, rfl, h0, h1, q⟩ := h
  refine ⟨_, pss_cons (ps_set (i := 2) scMix.nd rfl (Or.inl rfl) (pe_op op_mod (pe_op op_mul (pe_op op_add (pe_op op_add (pe_op op_mod (pv 0) pe_int) (pe_op op_mul (pe_op op_mul (pv 1) (pv 1)) pe_int)) pe_int) pe_int) pe_int))
    (pss_one (ps_ret (pe_op op_mod (pe_op op_add (pe_op op_mul (pv 2) (pv 2)) (pe_op op_mul pe_int (pv 1))) pe_int))), ?_⟩
  refine ⟨_, rfl, _, _, rfl, rfl, (by show (0 : Int) < 2147483647; decide), _, rfl, _, rfl, _, _, rfl, rfl, .inl ⟨by omega, by omega⟩, _, _, rfl, rfl, .inr ⟨by decide, by decide⟩, _, _, rfl, rfl, _, _, rfl, rfl, _, _, rfl, rfl, .inr ⟨by decide, by decide⟩, _, _, rfl, rfl, (by show (0 : Int) < 2147483647; decide), ?_⟩
  have m0 : ∀ z : Int, 0 ≤ z % 2147483647 ∧ z % 2147483647 < 2147483647 := fun z => ⟨Int.emod_nonneg _ (by decide), Int.emod_lt_of_pos _ (by decide)⟩
  refine ⟨_, rfl, _, rfl, _, _, rfl, rfl, .inl ⟨?_, ?_⟩, _, rfl, _, _, rfl, rfl, .inl ⟨by decide, by decide⟩, _, _, rfl, rfl, _, _, rfl, rfl, (by show (0 : Int) < 2147483629; decide), ?_⟩
  · exact Int.lt_of_lt_of_le (by decide) (m0 _).1
  · exact Int.lt_trans (m0 _).2 (by decide)
  · exact q _ (Int.emod_nonneg _ (by decide)) (Int.emod_lt_of_pos _ (by decide))
/-! ### _law_joined -/
def JoinOf (ps : List P0) (p : P0) : Prop := ps = [p] ∨ (ps.length ≠ 1 ∧ (p = .row ps ∨ p = .any ps))
def spJoined : Sp := fun vs H Q _ => ∃ (k : Int) (l : Addr) (xs : List V) (ps : List P0) (ex : List Addr), vs = [.int k, .ref l] ∧ H l = some (.lst xs) ∧ l ∉ ex ∧ (∀ a, a ∈ ex → ∃ o, H a = some o) ∧ PatsAt (era H ex) xs ps ∧ ∀ v p H', Same H H' → PatAt (era H' ex) v p → JoinOf ps p → Q v H'
theorem scJoined : FnScope ["_law_kind", "_law_parts"] ["_law_kind", "_law_parts"] (defScope sJoined) := ⟨rfl, rfl, rfl, by decide +kernel, rfl, by decide +kernel, by decide +kernel⟩
theorem mod2 (k : Int) : k % 2 = 0 ∨ k % 2 = 1 := by omega
theorem ok_Joined (F : Fun K "_law_joined" "_law_joined" sJoined f fd) (T : Txt K mg C) : FnOk P w K mg base CX0 1 f fd ["_law_kind", "_law_parts"] spJoined := by
  refine F.ok scJoined (fun vs H Q E h => ?_) (fun cdv A outer s H vs Q E hr h => ?_)
  · obtain ⟨k, l, xs, ps, ex, rfl, _⟩ := h
    rfl
  obtain ⟨k, l, xs, ps, ex, rfl, hl, hlx, hex, pa, q⟩ := h
  refine ⟨_, pss_cons (ps_if (pt_cmpR op_eq (pe_callB call_len_seq (by rfl) T.len PySem.boot_len (pa_cons (pv 1) pa_nil)) pe_int (nomark _)) (pss_one (ps_ret (pe_ix ix_list (pv 1) pe_int (fun _ _ => rfl)))) pss_nil)
    (pss_one (ps_ret (pe_tup (pa_cons (pe_ix ix_list (pe_lst (pa_cons pe_str (pa_cons pe_str pa_nil))) (pe_op op_mod (pv 0) pe_int) (fun _ _ => rfl)) (pa_cons (pv 1) pa_nil))))), ?_⟩
  have el := pa.len
  refine ⟨_, rfl, l, _, rfl, .inl (SqL.of hl), rfl, _, rfl, ?_⟩
  refine ite2 (fun c => ?_) (fun c => ?_)
  · have c : V.int (xs.length : Nat) = V.int 1 := of_decide_eq_true c
    have c : xs.length = 1 := by injection c with c; omega
    cases pa with
    | nil => simp at c
    | @cons v vs p ps h1 h2 =>
      cases h2 with
      | nil => exact ⟨_, rfl, l, _, _, _, rfl, rfl, SqL.of hl, at0, q v p H (Same.refl H) h1 (.inl rfl)⟩
      | cons _ _ => simp at c
  · have c : ps.length ≠ 1 := fun e => c (decide_eq_true (by rw [el, e]; rfl))
    refine ⟨small (by show (2:Nat) ≤ 100000; decide), fun r nr => ?_⟩
    have s1 := same_new nr (.lst [.str "row", .str "any"])
    refine ⟨_, rfl, _, _, rfl, rfl, (by show (0 : Int) < 2; decide), ?_⟩
    rcases mod2 k with e | e
    · refine ⟨r, _, _, _, rfl, rfl, SqL.of upd_same, (by rw [e]; exact at0), _, rfl, small (by show (2:Nat) ≤ 100000; decide), fun t nt => ?_⟩
      have s2 := s1.trans (same_new nt (.tup [.str "row", .ref l]))
      have htx : t ∉ ex := fun m => by obtain ⟨o, e⟩ := hex t m; rw [s1 _ _ e] at nt; cases nt
      exact q _ _ _ s2 (.row (by rw [era_out htx]; exact upd_same) (by rw [era_out hlx]; exact s2 _ _ hl) (pa.mono (era_mono _ s2))) (.inr ⟨c, .inl rfl⟩)
    · refine ⟨r, _, _, _, rfl, rfl, SqL.of upd_same, (by rw [e]; exact at1), _, rfl, small (by show (2:Nat) ≤ 100000; decide), fun t nt => ?_⟩
      have s2 := s1.trans (same_new nt (.tup [.str "any", .ref l]))
      have htx : t ∉ ex := fun m => by obtain ⟨o, e⟩ := hex t m; rw [s1 _ _ e] at nt; cases nt
      exact q _ _ _ s2 (.any (by rw [era_out htx]; exact upd_same) (by rw [era_out hlx]; exact s2 _ _ hl) (pa.mono (era_mono _ s2))) (.inr ⟨c, .inr rfl⟩)
/-! ### _law_twice -/
theorem patAt_tag {H : Hp} {v : V} {p : P0} (h : PatAt H v p) : ∃ a t rest, v = .ref a ∧ H a = some (.tup (.str t :: rest)) ∧
    ((t = "none" ∧ rest = []) ∨ (∃ x, t = "one" ∧ rest = [.str x]) ∨ (∃ l, t = "row" ∧ rest = [.ref l]) ∨ (∃ l, t = "any" ∧ rest = [.ref l]) ∨ ∃ u q, PatAt H u q ∧ rest = [u] ∧ (t = "maybe" ∨ t = "many" ∨ t = "some")) := by
  cases h with
  | none h => exact ⟨_, _, _, rfl, h, .inl ⟨rfl, rfl⟩⟩
  | one h => exact ⟨_, _, _, rfl, h, .inr (.inl ⟨_, rfl, rfl⟩)⟩
  | row h _ _ => exact ⟨_, _, _, rfl, h, .inr (.inr (.inl ⟨_, rfl, rfl⟩))⟩
  | any h _ _ => exact ⟨_, _, _, rfl, h, .inr (.inr (.inr (.inl ⟨_, rfl, rfl⟩)))⟩
  | maybe h k => exact ⟨_, _, _, rfl, h, .inr (.inr (.inr (.inr ⟨_, _, k, rfl, .inl rfl⟩)))⟩
  | many h k => exact ⟨_, _, _, rfl, h, .inr (.inr (.inr (.inr ⟨_, _, k, rfl, .inr (.inl rfl)⟩)))⟩
  | some h k => exact ⟨_, _, _, rfl, h, .inr (.inr (.inr (.inr ⟨_, _, k, rfl, .inr (.inr rfl)⟩)))⟩
def spTwice : Sp := fun vs H Q _ => ∃ (v : V) (p : P0), vs = [v] ∧ PatAt H v p ∧ ∀ b H', Same H H' → Q (.bl b) H'
def wraps : List Str := ["maybe", "many", "some"]
theorem scTwice : FnScope ["_law_pattern_here", "_law_wraps"] ["_law_pattern_here"] (defScope sTwice) := ⟨rfl, rfl, rfl, by decide +kernel, rfl, by decide +kernel, by decide +kernel⟩
theorem ok_Twice (F : Fun K "_law_twice" "_law_twice" sTwice f fd) : FnOk P w K mg base CX0 1 f fd ["_law_pattern_here"] spTwice := by
  refine F.ok scTwice (fun vs H Q E h => ?_) (fun cdv A outer s H vs Q E hr h => ?_)
  · obtain ⟨v, p, rfl, _⟩ := h
    rfl
  obtain ⟨v, p, rfl, pa, q⟩ := h
  refine ⟨_, pss_cons (ps_set (i := 1) scTwice.nd rfl (Or.inl rfl) (pe_lst (pa_cons pe_str (pa_cons pe_str (pa_cons pe_str pa_nil)))))
    (pss_one (ps_ret (pe_and (pe_cmpR op_in_seq (pe_ix ix_tup (pv 0) pe_int (fun _ _ => rfl)) (pv 1) (by rfl)) (pe_one (pe_cmpR op_in_seq (pe_ix ix_tup (pe_ix ix_tup (pv 0) pe_int (fun _ _ => rfl)) pe_int (fun _ _ => rfl)) (pv 1) (by rfl)))))), ?_⟩
  refine ⟨small (by show (3:Nat) ≤ 100000; decide), fun r nr => ?_⟩
  have s1 := same_new nr (.lst (wraps.map V.str))
  obtain ⟨a, t, rest, rfl, ha, cs⟩ := patAt_tag pa
  refine ⟨_, rfl, a, _, _, .str t, rfl, rfl, SqT.of (s1 _ _ ha), at0, _, rfl, r, wraps.map V.str, rfl, .inl (SqL.of upd_same), rfl, flat_strs _, _, rfl, ?_⟩
  rw [inV_str]
  refine ite2 (fun c => ?_) (fun c => ?_)
  · have c : t ∈ wraps := of_decide_eq_true c
    obtain ⟨u, q0, pu, er⟩ : ∃ u q0, PatAt H u q0 ∧ rest = [u] := by
      rcases cs with ⟨e, _⟩ | ⟨x, e, _⟩ | ⟨x, e, _⟩ | ⟨x, e, _⟩ | ⟨u, q0, h, e, _⟩
      · subst e; exact absurd c (by decide +kernel)
      · subst e; exact absurd c (by decide +kernel)
      · subst e; exact absurd c (by decide +kernel)
      · subst e; exact absurd c (by decide +kernel)
      · exact ⟨u, q0, h, e⟩
    subst er
    obtain ⟨a2, t2, rest2, rfl, ha2, _⟩ := patAt_tag pu
    refine ⟨_, rfl, a, _, _, .ref a2, rfl, rfl, SqT.of (s1 _ _ ha), at1, a2, _, _, .str t2, rfl, rfl, SqT.of (s1 _ _ ha2), at0, _, rfl, r, wraps.map V.str, rfl, .inl (SqL.of upd_same), rfl, flat_strs _, ?_⟩
    exact q _ _ s1
  · exact q _ _ s1
/-! ### _law_drawn_signs -/
def seven : List Str := ["a", "b", "#", "cab", "ba", "dddddddddddd", "c"]
def spDrawnSigns : Sp := fun vs H Q _ => ∃ (z : Int), vs = [.int z] ∧ ∀ (r : Addr) (H' : Hp) (fs : List Str), Same H H' → H r = none → H' r = some (.lst (fs.map V.str)) → fs.Perm seven → Q (.ref r) H'
theorem scDrawnSigns : FnScope ["_law_number", "_law_some", "_law_found"] ["_law_number"] (defScope sDrawnSigns) := ⟨rfl, rfl, rfl, by decide +kernel, rfl, by decide +kernel, by decide +kernel⟩
theorem seq_nat {k n : Nat} (h : k < n) : seqIndex? (k : Int) n = some k := by
  have := (ixN_seq (n := n) (i := (k : Int)) (j := k) (by unfold ixN; rw [if_pos (by omega), if_pos (by omega)]; rfl)).1
  exact this
theorem perm_erase : ∀ (l : List Str) (k : Nat) (y : Str), l[k]? = some y → (y :: l.eraseIdx k).Perm l
  | [], k, y, h => by simp at h
  | x :: l, 0, y, h => by
    have : x = y := by simpa using h
    subst this
    exact List.Perm.refl _
  | x :: l, k + 1, y, h => by
    have ih := perm_erase l k y (by simpa using h)
    show (y :: x :: l.eraseIdx k).Perm (x :: l)
    exact (List.Perm.swap x y _).trans (ih.cons x)
theorem map_erase {α β : Type} (g : α → β) : ∀ (l : List α) (k : Nat), (l.map g).eraseIdx k = (l.eraseIdx k).map g
  | [], k => by simp
  | x :: l, 0 => rfl
  | x :: l, k + 1 => by
    show g x :: (l.map g).eraseIdx k = g x :: (l.eraseIdx k).map g
    rw [map_erase g l k]
theorem ok_DrawnSigns (F : Fun K "_law_drawn_signs" "_law_drawn_signs" sDrawnSigns f fd) (T : Txt K mg C) : FnOk P w K mg base CX0 1 f fd ["_law_number"] spDrawnSigns := by
  refine F.ok scDrawnSigns (fun vs H Q E h => ?_) (fun cdv A outer s H vs Q E hr h => ?_)
  · obtain ⟨z, rfl, _⟩ := h
    rfl
  obtain ⟨z, rfl, q⟩ := h
  refine ⟨_, pss_cons (ps_set (i := 1) scDrawnSigns.nd rfl (Or.inl rfl) (pe_lst (pa_cons pe_str (pa_cons pe_str (pa_cons pe_str (pa_cons pe_str (pa_cons pe_str (pa_cons pe_str (pa_cons pe_str pa_nil)))))))))
    (pss_cons (ps_set (i := 2) scDrawnSigns.nd rfl (Or.inl rfl) (pe_lst pa_nil))
    (pss_cons (ps_while PassesOwn.never (pt_cmpR (op_neE (room_u hr)) (pv 1) (pe_lst pa_nil) (nomark _))
      (pss_cons (ps_expr (pe_bm PySem.F.plainAttrs_list PySem.F.slot_list_append PySem.F.type_list_append mt_append (pv 2) (pa_cons (pe_bm PySem.F.plainAttrs_list PySem.F.slot_list_pop PySem.F.type_list_pop mt_popAt (pv 1)
          (pa_cons (pe_op op_mod (pv 0) (pe_callB call_len_seq (by rfl) T.len PySem.boot_len (pa_cons (pv 1) pa_nil))) pa_nil)) pa_nil)))
      (pss_one (ps_set (i := 0) scDrawnSigns.nd rfl (Or.inl rfl) (pe_op op_add (pe_op op_fdiv (pv 0) pe_int) pe_int)))))
    (pss_one (ps_ret (pv 2))))), ?_⟩
  refine ⟨small (by show (7:Nat) ≤ 100000; decide), fun r1 n1 => ?_⟩
  refine ⟨small (by show (0:Nat) ≤ 100000; decide), fun r2 n2 => ?_⟩
  have s1 := same_new n1 (.lst (seven.map V.str))
  have hne : r1 ≠ r2 := ne_of_none upd_same n2
  have n2' : H r2 = none := s1.free n2
  refine while_by (fun σ H2 => ∃ (z : Int) (ss fs : List Str), σ = [some (.int z), some (.ref r1), some (.ref r2)] ∧ Same H H2 ∧ H2 r1 = some (.lst (ss.map V.str)) ∧ H2 r2 = some (.lst (fs.map V.str)) ∧ (fs ++ ss).Perm seven)
    (fun σ H2 => match H2 r1 with | some (.lst xs) => xs.length | _ => 0) ⟨z, seven, [], rfl, s1.trans (same_new n2 _), ?_, upd_same, List.Perm.refl _⟩ ?_ ?_
  · rw [upd_ne hne]; exact upd_same
  · rintro σ H2 ⟨z, ss, fs, rfl, s2, f1, f2, pm⟩
    have hlen : fs.length + ss.length = 7 := by rw [← List.length_append, pm.length_eq]; rfl
    refine ⟨_, rfl, small (by show (0:Nat) ≤ 100000; decide), fun r3 n3 => ?_⟩
    have s3 := same_new n3 (.lst [])
    have f1' := s3 _ _ f1
    have f2' := s3 _ _ f2
    refine ⟨r1, r3, _, rfl, rfl, SqL.of f1', SqL.of upd_same, _, rfl, ?_⟩
    cases ss with
    | nil =>
      refine iteF ⟨_, rfl, q r2 _ fs (s2.trans s3) n2' f2' ?_⟩
      rw [List.append_nil] at pm
      exact pm
    | cons x ss =>
      refine iteT ?_
      refine ⟨_, rfl, .inl ⟨rfl, _, SqL.of f2'⟩, _, rfl, .inl ⟨rfl, _, SqL.of f1'⟩, _, rfl, _, rfl, r1, _, rfl, .inl (SqL.of f1'), _, _, rfl, rfl, (by show (0 : Int) < (((x :: ss).map V.str).length : Nat); rw [List.length_map]; exact Int.natCast_pos.mpr (Nat.succ_pos _)), ?_⟩
      have hpos : (0 : Int) < ((x :: ss).length : Nat) := Int.natCast_pos.mpr (Nat.succ_pos _)
      have h0 := Int.emod_nonneg z (Int.ne_of_gt hpos)
      have h1 := Int.emod_lt_of_pos z hpos
      obtain ⟨k, ek⟩ : ∃ k : Nat, z % ((x :: ss).length : Nat) = (k : Int) := ⟨(z % ((x :: ss).length : Nat)).toNat, by omega⟩
      rw [ek] at h1
      have hk : k < (x :: ss).length := by omega
      obtain ⟨y, hy⟩ : ∃ y, (x :: ss)[k]? = some y := ⟨_, List.getElem?_eq_getElem hk⟩
      have hk7 : k < 7 := by omega
      refine ⟨r1, _, _, k, .str y, rfl, rfl, f1', ?_, ?_, ?_, ?_, ?_⟩
      · rw [List.length_map, ek]; omega
      · rw [List.length_map, ek]; omega
      · rw [List.length_map, ek]; exact seq_nat hk
      · rw [List.getElem?_map, hy]; rfl
      refine ⟨r2, fs.map V.str, .str y, rfl, rfl, ?_, ?_, ?_⟩
      · exact (upd_ne hne.symm).trans f2'
      · rw [List.length_map]; exact smaller (by omega)
      refine ⟨_, rfl, _, _, rfl, rfl, ⟨by decide, by decide⟩, _, _, rfl, rfl, ⟨_, (x :: ss).eraseIdx k, fs ++ [y], rfl, ?_, ?_, ?_, ?_⟩, ?_⟩
      · exact same_upd (same_upd (s2.trans s3) n1 _) n2' _
      · rw [upd_ne hne, upd_same, map_erase]
      · rw [upd_same, List.map_append]; rfl
      · rw [List.append_assoc]
        exact ((perm_erase _ _ _ hy).append_left fs).trans pm
      · show (match (upd (upd _ r1 _) r2 _) r1 with | some (.lst xs) => xs.length | _ => 0) < (match H2 r1 with | some (.lst xs) => xs.length | _ => 0)
        rw [upd_ne hne, upd_same, f1]
        show (List.eraseIdx _ k).length < (List.map V.str (x :: ss)).length
        rw [List.length_eraseIdx]
        rw [if_pos (by rw [List.length_map]; exact hk)]
        rw [List.length_map]
        simp
  · rintro σ H2 Q Q' hQ ⟨v, e, h⟩
    refine ⟨v, e, h.1, fun p hp => ?_⟩
    obtain ⟨a, b, xs, e1, e2, e3, e4, k, e5, e6⟩ := h.2 p hp
    exact ⟨a, b, xs, e1, e2, e3, e4, k, e5, hQ _ _ e6⟩
end
end FW

end
section
namespace FW
open PySem L2 FF
/-! ### slices -/
theorem cut_to {xs : List V} {k : Nat} : cutV xs none (some (k : Int)) = xs.take k := by
  unfold cutV
  rw [HT.sIx_nat, HT.sIx_none, List.drop_zero, Nat.sub_zero]
  by_cases h : k ≤ xs.length
  · rw [Nat.min_eq_left h]
  · rw [Nat.min_eq_right (by omega), List.take_length, List.take_of_length_le (by omega)]
theorem cut_from {xs : List V} {k : Nat} : cutV xs (some (k : Int)) none = xs.drop k := by
  unfold cutV
  rw [HT.sIx_nat, HT.sIx_none]
  by_cases h : k ≤ xs.length
  · rw [Nat.min_eq_left h, List.take_of_length_le (by rw [List.length_drop]; exact Nat.le_refl _)]
  · rw [Nat.min_eq_right (by omega), List.drop_length, List.take_nil, List.drop_eq_nil_of_le (by omega)]
theorem cut_mid {xs : List V} {k j : Nat} : cutV xs (some (k : Int)) (some (j : Int)) = (xs.drop k).take (j - k) := by
  unfold cutV
  rw [HT.sIx_nat, HT.sIx_nat]
  by_cases h : k ≤ xs.length
  · rw [Nat.min_eq_left h]
    by_cases h2 : j ≤ xs.length
    · rw [Nat.min_eq_left h2]
    · rw [Nat.min_eq_right (by omega), List.take_of_length_le (by rw [List.length_drop]; exact Nat.le_refl _), List.take_of_length_le (by rw [List.length_drop]; omega)]
  · rw [Nat.min_eq_right (Nat.le_of_not_le h), List.drop_length, List.take_nil, List.drop_eq_nil_of_le (by omega), List.take_nil]
theorem sIx_neg {n d m : Nat} (h : 0 < m) : HT.sIx n d (some (-(m : Int))) = n - m := by
  show (if -(m : Int) < 0 then (-(m : Int) + (n : Int)).toNat else min (-(m : Int)).toNat n) = n - m
  rw [if_pos (by omega)]
  omega
theorem cut_to_neg {xs : List V} {m : Nat} (h : 0 < m) : cutV xs none (some (-(m : Int))) = xs.take (xs.length - m) := by
  unfold cutV
  rw [sIx_neg h, HT.sIx_none, List.drop_zero, Nat.sub_zero]
theorem cut_from_neg {xs : List V} {m : Nat} (h : 0 < m) : cutV xs (some (-(m : Int))) none = xs.drop (xs.length - m) := by
  unfold cutV
  rw [sIx_neg h, HT.sIx_none, List.take_of_length_le (by rw [List.length_drop]; exact Nat.le_refl _)]
theorem ixN_nat {n k : Nat} (h : k < n) : ixN n (k : Int) = some k := by
  unfold ixN
  rw [if_pos (by omega), if_pos (by omega)]; rfl
theorem ixN_neg1 {n : Nat} (h : 0 < n) : ixN n (-1) = some (n - 1) := by
  unfold ixN
  rw [if_neg (by omega), if_pos (by omega)]
  congr 1
  omega
theorem int_ix {xs : List Int} {k : Nat} (h : k < xs.length) : ∃ z, xs[k]? = some z ∧ atI (xs.map V.int) (k : Int) = some (.int z) := by
  refine ⟨xs[k], List.getElem?_eq_getElem h, atI_nat (j := k) ?_⟩
  rw [List.getElem?_map, List.getElem?_eq_getElem h]; rfl
/-- a rest by a length is a place -/
theorem mod_ix (z : Int) {n : Nat} (h : 0 < n) : ∃ k : Nat, z % (n : Int) = (k : Int) ∧ k < n := by
  have h0 := Int.emod_nonneg z (b := (n : Int)) (by omega)
  have h1 := Int.emod_lt_of_pos z (b := (n : Int)) (by omega)
  exact ⟨(z % (n : Int)).toNat, by omega, by omega⟩

section
variable {P : Program} {w : World} {K : PySem.W.Frag} {mg : Str → Option Value} {base : Heap} {C : Kd → Addr} {f : Addr} {fd : FuncData}
/-! ### _law_draws -/
def spDraws (K : PySem.W.Frag) : Sp := fun vs H Q _ => ∃ (a : Addr) (ns : List Int) (t m : Nat), vs = [.ref a, .int t, .int m] ∧ SqL K H a (ns.map V.int) ∧ ns.length ≤ 63 ∧ t ≤ 1000 ∧ m ≤ 1000 ∧
  ∀ (r : Addr) (H' : Hp) (fs : List Int), Same H H' → H r = none → H' r = some (.lst (fs.map V.int)) → fs.length = m → Q (.ref r) H'
theorem scDraws : FnScope ["_law_script", "_law_turn", "_law_many", "_law_cells", "_law_found", "_law_lefts", "_law_k", "_law_at", "_law_number", "_law_cell"] ["_law_script", "_law_turn", "_law_many"] (defScope sDraws) := ⟨rfl, rfl, rfl, by decide +kernel, rfl, by decide +kernel, by decide +kernel⟩
theorem ok_Draws {fM : Addr} {fdM : FuncData} (F : Fun K "_law_draws" "_law_draws" sDraws f fd) (T : Txt K mg C) (GM : FnOk P w K mg base CX0 1 fM fdM ["_law_cell", "_law_turn"] spMix) (mM : mg "_law_mix" = some (.ref fM)) (kM : PySem.W.keepIn K (.ref fM) = true) (bM : Binds K fdM ["_law_cell", "_law_turn"] []) :
    FnOk P w K mg base CX0 2 f fd ["_law_script", "_law_turn", "_law_many"] (spDraws K) := by
  refine F.ok scDraws (fun vs H Q E h => ?_) (fun cdv A outer s H vs Q E hr h => ?_)
  · obtain ⟨a, ns, t, m, rfl, _⟩ := h
    rfl
  obtain ⟨a, ns, t, m, rfl, hS, h63, ht, hm, q⟩ := h
  refine ⟨_, pss_cons (ps_set (i := 3) scDraws.nd rfl (Or.inl rfl) (pe_op op_cat (pe_slice sl_list (pv 0) po_none (po_some pe_int)) (pe_lst (pa_cons (pv 1) pa_nil))))
    (pss_cons (ps_set (i := 4) scDraws.nd rfl (Or.inl rfl) (pe_lst pa_nil))
    (pss_cons (ps_if (pt_cmpR op_eq (pe_op op_mod (pe_op op_fdiv (pe_ix ix_list (pv 3) pe_int (fun _ _ => rfl)) pe_int) pe_int) pe_int (nomark _))
      (pss_cons (ps_setLc (i := 5) (own := [("_law_cell", 9)]) (g := gName 9) (tt := tYes) (te := tOp (rI CDiv fun i j => .int (i / j)) (tVar 9) (tC (.int 100000))) rfl scDraws.nd rfl rfl (sw_true rfl rfl rfl (by decide +kernel)) (pi_list (pv 3)) (blkOk_by (own := [("_law_cell", 9)]) (N := ["_law_script", "_law_turn", "_law_many", "_law_cells", "_law_found", "_law_lefts", "_law_k", "_law_at", "_law_number", "_law_cell"]) (sc := defScope sDraws) (by decide +kernel))
          (fun _ _ _ _ _ => pg_name (i := 9) scDraws.nd rfl (Or.inl rfl)) (fun _ _ _ _ _ => pts_nil) (fun _ _ _ _ _ => pe_op op_fdiv (pv 9) pe_int))
      (pss_cons (ps_for PassesOwn.never rfl (pi_range1 rfl T.range (pa_cons (pe_op op_add (pv 1) (pv 2)) pa_nil)) (pg_name (i := 6) scDraws.nd rfl (Or.inl rfl))
        (pss_cons (ps_set (i := 7) scDraws.nd rfl (Or.inl rfl) (pe_op op_mod (pv 6) (pe_callB call_len_seq (by rfl) T.len PySem.boot_len (pa_cons (pv 5) pa_nil))))
        (pss_cons (ps_expr (pe_bm PySem.F.plainAttrs_list PySem.F.slot_list_append PySem.F.type_list_append mt_append (pv 4) (pa_cons (pe_op op_mod (pe_ix ix_list (pv 5) (pv 7) (fun _ _ => rfl)) pe_int) pa_nil)))
        (pss_one (ps_asg (pe_op op_fdivW (pe_ix ix_list (pv 5) (pv 7) (fun _ _ => rfl)) pe_int) (pg_sub (pv 5) (pv 7) set_list))))))
      (pss_one (ps_ret (pe_slice sl_list (pv 4) (po_some (pv 1)) po_none))))) pss_nil)
    (pss_cons (ps_for PassesOwn.never rfl (pi_range1 rfl T.range (pa_cons (pv 2) pa_nil)) (pg_name (i := 6) scDraws.nd rfl (Or.inl rfl))
      (pss_cons (ps_set (i := 8) scDraws.nd rfl (Or.inl rfl) (pe_call GM hr rfl mM kM bM .nil pass0 (pa_cons (pe_ix ix_list (pv 3) (pe_op op_mod (pv 6) (pe_callB call_len_seq (by rfl) T.len PySem.boot_len (pa_cons (pv 3) pa_nil))) (fun _ _ => rfl)) (pa_cons (pe_op op_add (pv 6) (pv 1)) pa_nil))))
      (pss_one (ps_expr (pe_bm PySem.F.plainAttrs_list PySem.F.slot_list_append PySem.F.type_list_append mt_append (pv 4) (pa_cons (pe_op op_mod (pe_op op_add (pe_op op_mul (pv 8) (pv 8)) (pe_op op_mul pe_int (pv 6))) pe_int) pa_nil))))))
    (pss_one (ps_ret (pv 4)))))), ?_⟩
  -- cells = script[:63] + [turn]
  refine ⟨_, rfl, 63, rfl, a, _, rfl, hS, fun p1 n1 => ⟨_, rfl, small (by show (1:Nat) ≤ 100000; decide), fun p2 n2 => ?_⟩⟩
  have e63 : cutV (ns.map V.int) none (some (63 : Int)) = (ns.take 63).map V.int := by
    have := cut_to (xs := ns.map V.int) (k := 63)
    rw [← List.map_take] at this
    exact this
  have l63 : (ns.take 63).length ≤ 63 := by rw [List.length_take]; omega
  refine ⟨p1, p2, (ns.take 63).map V.int, [.int t], rfl, rfl, ?_, upd_same, ?_, fun cs n3 => ?_⟩
  · rw [upd_ne (ne_of_none upd_same n2), upd_same, e63]
  · rw [List.length_map]; exact small (by show _ + 1 ≤ _; omega)
  obtain ⟨cz, ecz, lcz⟩ : ∃ cz : List Int, (ns.take 63).map V.int ++ [.int t] = cz.map V.int ∧ cz.length = (ns.take 63).length + 1 := ⟨ns.take 63 ++ [(t : Int)], by rw [List.map_append]; rfl, by rw [List.length_append]; rfl⟩
  rw [ecz]
  have s3 : Same H (upd (upd (upd H p1 (.lst (cutV (ns.map V.int) none (some (63 : Int))))) p2 (.lst [.int t])) cs (.lst (cz.map V.int))) := ((same_new n1 _).trans (same_new n2 _)).trans (same_new n3 _)
  have n3' : H cs = none := ((same_new n1 _).trans (same_new n2 _)).free n3
  generalize hH3 : upd (upd (upd H p1 (.lst (cutV (ns.map V.int) none (some (63 : Int))))) p2 (.lst [.int t])) cs (.lst (cz.map V.int)) = H3 at s3
  have hcs : H3 cs = some (.lst (cz.map V.int)) := by rw [← hH3]; exact upd_same
  -- found = []
  refine ⟨small (by show (0:Nat) ≤ 100000; decide), fun fo n4 => ?_⟩
  have s4 := same_new n4 (.lst [])
  have n4' : H fo = none := s3.free n4
  have hcs4 := s4 _ _ hcs
  have hfo4 : upd H3 fo (.lst []) fo = some (.lst (([] : List Int).map V.int)) := upd_same
  have s34 := s3.trans s4
  generalize upd H3 fo (.lst []) = H4 at s4 hcs4 hfo4 s34
  have hpos : 0 < cz.length := by omega
  obtain ⟨c0, _, ec0⟩ := int_ix (xs := cz) (k := 0) hpos
  refine ⟨_, rfl, cs, _, _, .int c0, rfl, rfl, SqL.of hcs4, ec0, _, _, rfl, rfl, ⟨by decide, by decide⟩, _, _, rfl, rfl, (by show (0 : Int) < 2; decide), rfl, _, rfl, ?_⟩
  refine ite2 (fun _ => ?_) (fun _ => ?_)
  · -- lefts = [..]
    refine ⟨_, rfl, cs, rfl, ⟨_, SqL.of hcs4⟩, fun lf n5 => lc_list (K := K) (a := cs) (xs := cz.map V.int) (fun i H5 => Same H4 H5 ∧ ∃ ls : List Int, H5 lf = some (.lst (ls.map V.int)) ∧ ls.length = i)
      ⟨same_new n5 _, [], upd_same, rfl⟩ (fun i H5 _ ⟨s5, _⟩ => SqL.of (s5 _ _ hcs4)) ?_ ?_⟩
    · rintro i x H5 hx ⟨s5, ls, f5, e5⟩
      obtain ⟨z, hz, rfl⟩ := int_at hx
      have hi := (List.getElem?_eq_some_iff.mp hz).1
      refine ⟨rfl, _, rfl, _, _, rfl, rfl, ⟨by decide, by decide⟩, _, f5, ?_, same_upd s5 n5 _, ls ++ [z / 100000], ?_, ?_⟩
      · rw [List.length_map]; exact smaller (by omega)
      · rw [upd_same, List.map_append]; rfl
      · rw [List.length_append, e5]; rfl
    rintro H5 ⟨s5, ls, f5, e5⟩
    rw [List.length_map] at e5
    have s35 := s34.trans s5
    have n5' : H lf = none := s34.free n5
    have hlf : fo ≠ lf := fun e => by rw [← e, hfo4] at n5; cases n5
    have f45 := s5 _ _ hfo4
    -- for k in range(turn + many)
    refine ⟨_, rfl, _, rfl, _, _, rfl, rfl, ((t + m : Nat) : Int), rfl, by omega, by omega, ?_⟩
    rw [Int.toNat_natCast]
    refine for_range (lo := 0) (n := t + m) (fun i σ H6 => ∃ v6 v7 ls fs, σ = [some (.ref a), some (.int t), some (.int m), some (.ref cs), some (.ref fo), some (.ref lf), v6, v7, none, none] ∧ Same H H6 ∧ H6 fo = some (.lst ((fs : List Int).map V.int)) ∧ H6 lf = some (.lst ((ls : List Int).map V.int)) ∧ fs.length = i ∧ ls.length = cz.length)
      ⟨none, none, ls, [], rfl, s35, f45, f5, rfl, e5⟩ ?_ ?_
    · rintro i σ H6 hi ⟨v6, v7, ls, fs, rfl, s6, f6, g6, e6, e7⟩
      refine ⟨_, rfl, _, rfl, lf, _, rfl, .inl (SqL.of g6), _, _, rfl, rfl, (by show (0 : Int) < ((ls.map V.int).length : Nat); rw [List.length_map]; omega), ?_⟩
      obtain ⟨k, ek, hk⟩ := mod_ix (0 + (i : Int)) (n := (ls.map V.int).length) (by rw [List.length_map]; omega)
      rw [List.length_map] at hk
      obtain ⟨z, hz, az⟩ := int_ix (xs := ls) (k := k) hk
      rw [← ek] at az
      refine ⟨_, rfl, .inl ⟨rfl, _, SqL.of f6⟩, _, rfl, _, rfl, lf, _, _, .int z, rfl, rfl, SqL.of g6, az, _, _, rfl, rfl, (by show (0 : Int) < 2147483587; decide), fo, fs.map V.int, .int (z % 2147483587), rfl, rfl, f6, ?_, ?_⟩
      · rw [List.length_map]; exact smaller (by omega)
      have g7 : upd H6 fo (.lst (fs.map V.int ++ [.int (z % 2147483587)])) lf = some (.lst (ls.map V.int)) := by rw [upd_ne hlf.symm]; exact g6
      refine ⟨_, rfl, _, rfl, lf, _, _, .int z, rfl, rfl, SqL.of g7, az, _, _, rfl, rfl, wide_div (b := 40) (by decide) (by decide) (by decide) (by decide), _, rfl, _, rfl, lf, ls.map V.int, _, k, rfl, rfl, g7, ?_, ?_⟩
      · rw [ek, List.length_map]; exact ixN_nat hk
      refine ⟨_, _, ls.set k (z / 2147483587), fs ++ [z % 2147483587], rfl, same_upd (same_upd s6 n4' _) n5' _, ?_, ?_, ?_, ?_⟩
      · rw [upd_ne hlf, upd_same, List.map_append]; rfl
      · rw [upd_same, List.map_set]
      · rw [List.length_append, e6]; rfl
      · rw [List.length_set]; exact e7
    · rintro σ H6 ⟨v6, v7, ls, fs, rfl, s6, f6, g6, e6, e7⟩
      refine ⟨_, rfl, _, rfl, _, rfl, fo, _, rfl, SqL.of f6, fun r n7 => q r _ (fs.drop t) (s6.trans (same_new n7 _)) (s6.free n7) ?_ ?_⟩
      · rw [upd_same, cut_from, List.map_drop]
      · rw [List.length_drop]; omega
  · -- for k in range(many)
    refine ⟨_, rfl, (m : Int), rfl, by omega, by omega, ?_⟩
    rw [Int.toNat_natCast]
    refine for_range (lo := 0) (n := m) (fun i σ H6 => ∃ v6 v8 fs, σ = [some (.ref a), some (.int t), some (.int m), some (.ref cs), some (.ref fo), none, v6, none, v8, none] ∧ Same H H6 ∧ H6 cs = some (.lst (cz.map V.int)) ∧ H6 fo = some (.lst ((fs : List Int).map V.int)) ∧ fs.length = i)
      ⟨none, none, [], rfl, s34, hcs4, hfo4, rfl⟩ ?_ ?_
    · rintro i σ H6 hi ⟨v6, v8, fs, rfl, s6, g6, f6, e6⟩
      have hne : cs ≠ fo := fun e => by rw [← e, hcs] at n4; cases n4
      obtain ⟨k, ek, hk⟩ := mod_ix (0 + (i : Int)) (n := (cz.map V.int).length) (by rw [List.length_map]; omega)
      rw [List.length_map] at hk
      obtain ⟨z, hz, az⟩ := int_ix (xs := cz) (k := k) hk
      rw [← ek] at az
      refine ⟨_, rfl, _, rfl, _, rfl, cs, _, rfl, .inl (SqL.of g6), _, _, rfl, rfl, (by show (0 : Int) < ((cz.map V.int).length : Nat); rw [List.length_map]; omega), cs, _, _, .int z, rfl, rfl, SqL.of g6, az, _, rfl, _, rfl, _, _, rfl, rfl, z, _, rfl, by omega, by omega, fun n h0 h1 => ?_⟩
      refine ⟨_, rfl, .inl ⟨rfl, _, SqL.of f6⟩, _, rfl, _, rfl, _, _, rfl, rfl, .inl ⟨by omega, by omega⟩, _, rfl, _, _, rfl, rfl, .inl ⟨by decide, by decide⟩, _, _, rfl, rfl, _, _, rfl, rfl, (by show (0 : Int) < 2147483587; decide), fo, fs.map V.int, _, rfl, rfl, f6, ?_, ?_⟩
      · rw [List.length_map]; exact smaller (by omega)
      refine ⟨_, _, fs ++ [(n * n + 7 * (0 + (i : Int))) % 2147483587], rfl, same_upd s6 n4' _, ?_, ?_, ?_⟩
      · rw [upd_ne hne]; exact g6
      · rw [upd_same, List.map_append]; rfl
      · rw [List.length_append, e6]; rfl
    · rintro σ H6 ⟨v6, v8, fs, rfl, s6, g6, f6, e6⟩
      exact ⟨_, rfl, q fo H6 fs s6 n4' f6 e6⟩
end
end FW

end
section
namespace FF
section
variable {α : Type}
theorem depthL_append : ∀ (ps qs : List (Pat α)), depthL (ps ++ qs) = max (depthL ps) (depthL qs)
  | [], qs => by rw [List.nil_append, depthL, Nat.zero_max]
  | p :: ps, qs => by rw [List.cons_append, depthL, depthL, depthL_append ps qs, Nat.max_assoc]
theorem depthL_one (p : Pat α) : depthL [p] = depth p := by rw [depthL, depthL, Nat.max_zero]
theorem FairL_append {ps qs : List (Pat α)} : FairL (ps ++ qs) ↔ FairL ps ∧ FairL qs := by
  constructor
  · intro h
    exact ⟨FairL_of fun q hq => FairL_mem h (List.mem_append_left _ hq), FairL_of fun q hq => FairL_mem h (List.mem_append_right _ hq)⟩
  · rintro ⟨h, k⟩
    refine FairL_of fun q hq => ?_
    rcases List.mem_append.mp hq with m | m
    · exact FairL_mem h m
    · exact FairL_mem k m
theorem FairL_one {p : Pat α} : FairL [p] ↔ Fair p := by
  rw [FairL, FairL]
  exact ⟨fun h => h.1, fun h => ⟨h, trivial⟩⟩
end
end FF
namespace FW
open PySem L2 FF
theorem joinOf_depth {ps : List P0} {p : P0} (j : JoinOf ps p) : depth p ≤ depthL ps + 1 := by
  rcases j with rfl | ⟨_, rfl | rfl⟩
  · rw [depthL_one]; omega
  · rw [depth]; exact Nat.le_refl _
  · rw [depth]; exact Nat.le_refl _
theorem joinOf_signs {ps : List P0} {p : P0} (j : JoinOf ps p) : signs p = signsL ps := by
  rcases j with rfl | ⟨_, rfl | rfl⟩
  · rw [signsL_one]
  · rw [signs]
  · rw [signs]
theorem joinOf_fair {ps : List P0} {p : P0} (j : JoinOf ps p) (h : 0 < ps.length) (h2 : ps.length ≤ 1000) (f : FairL ps) : Fair p := by
  rcases j with rfl | ⟨_, rfl | rfl⟩
  · exact FairL_one.mp f
  · rw [Fair]; exact ⟨h2, f⟩
  · rw [Fair]; exact ⟨h2, h, f⟩
/-- the last of a pile -/
theorem patsAt_last {H : Hp} : ∀ {vs : List V} {ps : List P0}, PatsAt H vs ps → vs ≠ [] → ∃ us u qs q, vs = us ++ [u] ∧ ps = qs ++ [q] ∧ PatsAt H us qs ∧ PatAt H u q
  | _, _, .nil, h => absurd rfl h
  | _, _, .cons (v := v) (p := p) h .nil, _ => ⟨[], v, [], p, rfl, rfl, .nil, h⟩
  | _, _, .cons (v := v) (p := p) h (.cons h1 h2), _ => by
    obtain ⟨us, u, qs, q, e1, e2, h3, h4⟩ := patsAt_last (.cons h1 h2) (by simp)
    exact ⟨v :: us, u, p :: qs, q, by rw [e1]; rfl, by rw [e2]; rfl, .cons h h3, h4⟩
theorem set_last {us : List V} {u x : V} : (us ++ [u]).set ((us ++ [u]).length - 1) x = us ++ [x] := by
  rw [List.length_append, List.length_singleton, Nat.add_sub_cancel, List.set_append_right _ _ (Nat.le_refl _), Nat.sub_self]; rfl
theorem last_at {us : List V} {u : V} : (us ++ [u])[(us ++ [u]).length - 1]? = some u := by
  rw [List.length_append, List.length_singleton, Nat.add_sub_cancel, List.getElem?_append_right (Nat.le_refl _), Nat.sub_self]; rfl

/-! ### _law_pattern -/
structure Pile (H0 H : Hp) (pool : List Str) (r lf : Addr) (vs : List V) (ps : List P0) (left : List Str) (i : Nat) : Prop where
  same : Same H0 H
  fr : H0 r = none
  fl : H0 lf = none
  hr : H r = some (.lst vs)
  hl : H lf = some (.lst (left.map V.str))
  ne : r ≠ lf
  pa : PatsAt (era H [r, lf]) vs ps
  len : ps.length ≤ i
  dep : depthL ps ≤ i
  fair : FairL ps
  perm : (signsL ps ++ left).Perm pool
theorem Pile.mono {H0 H H' : Hp} {pool : List Str} {r lf : Addr} {vs : List V} {ps : List P0} {left : List Str} {i : Nat} (p : Pile H0 H pool r lf vs ps left i) (s : Same H H') : Pile H0 H' pool r lf vs ps left i :=
  ⟨p.same.trans s, p.fr, p.fl, s _ _ p.hr, s _ _ p.hl, p.ne, p.pa.mono (era_mono _ s), p.len, p.dep, p.fair, p.perm⟩
theorem Pile.up {H0 H : Hp} {pool : List Str} {r lf : Addr} {vs : List V} {ps : List P0} {left : List Str} {i : Nat} (p : Pile H0 H pool r lf vs ps left i) : Pile H0 H pool r lf vs ps left (i + 1) :=
  ⟨p.same, p.fr, p.fl, p.hr, p.hl, p.ne, p.pa, Nat.le_succ_of_le p.len, Nat.le_succ_of_le p.dep, p.fair, p.perm⟩
/-- a new thing keeps what stands beside the two lists -/
theorem era2_new {H : Hp} {r lf : Addr} {o o' : HO} (hr : H r = some o) (hl : H lf = some o') {t : Addr} (nt : H t = none) (x : HO) : Same (era H [r, lf]) (era (upd H t x) [r, lf]) ∧ era (upd H t x) [r, lf] t = some x := by
  refine ⟨era_mono _ (same_new nt x), ?_⟩
  have h1 : t ≠ r := (ne_of_none hr nt).symm
  have h2 : t ≠ lf := (ne_of_none hl nt).symm
  rw [era_out (by simp [h1, h2]), upd_same]
abbrev nPattern : List Str := ["_law_numbers", "_law_pool", "_law_pile", "_law_left", "_law_number", "_law_kind", "_law_many"]
section
variable {P : Program} {w : World} {K : PySem.W.Frag} {mg : Str → Option Value} {base : Heap} {C : Kd → Addr} {f : Addr} {fd : FuncData}
def spPattern : Sp := fun vs H Q _ => ∃ (ln lp : Addr) (ns : List Int) (pool : List Str), vs = [.ref ln, .ref lp] ∧ H ln = some (.lst (ns.map V.int)) ∧ H lp = some (.lst (pool.map V.str)) ∧ ns.length ≤ 19 ∧
  ∀ v p H', Same H H' → PatAt H' v p → depth p ≤ 20 → Fair p → (∃ left, (signs p ++ left).Perm pool) → Q v H'
theorem scPattern : FnScope nPattern ["_law_numbers", "_law_pool"] (defScope sPattern) := ⟨rfl, rfl, rfl, by decide +kernel, rfl, by decide +kernel, by decide +kernel⟩
/-- what the first test asks, and what it tells -/
def tPile1 : TT := fun σ H Q => ∃ r kk vs ps, σ[2]? = some (some (.ref r)) ∧ σ[5]? = some (some (.int kk)) ∧ H r = some (.lst vs) ∧ PatsAt H vs ps ∧ ∀ b H', Same H H' → (b = true → vs ≠ [] ∧ kk < 3) → Q b H'
def tPile2 : TT := fun σ H Q => ∃ r kk vs, σ[2]? = some (some (.ref r)) ∧ σ[5]? = some (some (.int kk)) ∧ H r = some (.lst vs) ∧ ∀ b, (b = true → 1 < vs.length) → Q b H
def tPile3 : TT := fun σ H Q => ∃ lf kk left, σ[3]? = some (some (.ref lf)) ∧ σ[5]? = some (some (.int kk)) ∧ H lf = some (.lst left) ∧ ∀ b H', Same H H' → (b = true → left ≠ []) → Q b H'
theorem ok_Pattern {fJ fT : Addr} {fdJ fdT : FuncData} (F : Fun K "_law_pattern" "_law_pattern" sPattern f fd) (T : Txt K mg C) (GJ : FnOk P w K mg base CX0 1 fJ fdJ ["_law_kind", "_law_parts"] spJoined) (mJ : mg "_law_joined" = some (.ref fJ)) (kJ : PySem.W.keepIn K (.ref fJ) = true) (bJ : Binds K fdJ ["_law_kind", "_law_parts"] [])
    (GT : FnOk P w K mg base CX0 1 fT fdT ["_law_pattern_here"] spTwice) (mT : mg "_law_twice" = some (.ref fT)) (kT : PySem.W.keepIn K (.ref fT) = true) (bT : Binds K fdT ["_law_pattern_here"] []) :
    FnOk P w K mg base CX0 2 f fd ["_law_numbers", "_law_pool"] spPattern := by
  refine F.ok scPattern (fun vs H Q E h => ?_) (fun cdv A outer s H vs Q E hr h => ?_)
  · obtain ⟨ln, lp, ns, pool, rfl, _⟩ := h
    rfl
  obtain ⟨ln, lp, ns, pool, rfl, hln, hlp, h18, q⟩ := h
  have hu := room_u hr
  refine ⟨_, (pss_cons (ps_set (i := 2) scPattern.nd rfl (Or.inl rfl) (pe_lst pa_nil))
      (pss_cons (ps_set (i := 3) scPattern.nd rfl (Or.inl rfl) (pe_callTy call_list_of (by rfl) T.list (by decide +kernel) (pa_cons (pv 1) pa_nil)))
      (pss_cons (ps_for PassesOwn.never rfl (pi_list (pv 0)) (pg_name (i := 4) scPattern.nd rfl (Or.inl rfl))
      (pss_cons (ps_set (i := 5) scPattern.nd rfl (Or.inl rfl) (pe_op op_mod (pv 4) pe_int))
      (pss_one (ps_if (PT_imp (t' := tPile1) (PW.pt (pw_and (pt_cmpR (op_neE hu) (pv 2) (pe_lst pa_nil) (nomark _)) (pw_and (pt_cmpR op_lt (pv 5) pe_int (nomark _)) (pw_and1 (pt_not (pt_val (pe_call GT hr rfl mT kT bT .nil pass0 (pa_cons (pe_ix ix_list (pv 2) (pe_un un_neg pe_int) (fun _ _ => rfl)) pa_nil)))))))) (by
              rintro σ H Q ⟨r, kk, vs, ps, e1, e2, hv, pa, k⟩
              refine ⟨_, e1, small (by show (0:Nat) ≤ 100000; decide), fun r3 n3 => ?_⟩
              have s3 := same_new n3 (.lst [])
              refine ⟨r, r3, _, rfl, rfl, SqL.of (s3 _ _ hv), SqL.of upd_same, _, rfl, ?_⟩
              cases vs with
              | nil => exact iteF (k false _ s3 (fun e => nomatch e))
              | cons v0 vs0 =>
                refine iteT ⟨_, e2, _, _, rfl, rfl, _, rfl, ite2 (fun c => ?_) (fun c => k false _ s3 (fun e => nomatch e))⟩
                obtain ⟨us, u, qs, q0, e3, e4, h3, h4⟩ := patsAt_last pa (by simp)
                have hv3 := s3 _ _ hv
                rw [e3] at hv3
                refine ⟨_, e1, _, rfl, r, _, _, u, rfl, rfl, SqL.of hv3, at_neg1 last_at, u, q0, rfl, h4.mono s3, fun b H' s4 => ⟨_, rfl, k _ _ (s3.trans s4) fun _ => ⟨by simp, of_decide_eq_true c⟩⟩⟩))
      (pss_one (ps_asg (pe_tup (pa_cons (pe_ix ix_list (pe_lst (pa_cons pe_str (pa_cons pe_str (pa_cons pe_str pa_nil)))) (pv 5) (fun _ _ => rfl)) (pa_cons (pe_ix ix_list (pv 2) (pe_un un_neg pe_int) (fun _ _ => rfl)) pa_nil))) (pg_sub (pv 2) (pe_un un_neg pe_int) set_list)))
      (pss_one (ps_if (PT_imp (t' := tPile2) (PW.pt (pw_and (pt_cmpR op_gt (pe_callB call_len_seq (by rfl) T.len PySem.boot_len (pa_cons (pv 2) pa_nil)) pe_int (nomark _)) (pw_and1 (pt_cmpR op_lt (pv 5) pe_int (nomark _))))) (by
              rintro σ H Q ⟨r, kk, vs, e1, e2, hv, k⟩
              refine ⟨_, e1, r, _, rfl, .inl (SqL.of hv), _, _, rfl, rfl, _, rfl, ite2 (fun c => ?_) (fun c => k false (fun e => nomatch e))⟩
              have c : (1 : Int) < (vs.length : Nat) := of_decide_eq_true c
              exact ⟨_, e2, _, _, rfl, rfl, _, rfl, k _ fun _ => by omega⟩))
      (pss_cons (ps_set (i := 6) scPattern.nd rfl (Or.inl rfl) (pe_op op_add pe_int (pe_op op_mod (pe_op op_fdiv (pv 4) pe_int) pe_int)))
      (pss_one (ps_set (i := 2) scPattern.nd rfl (Or.inl rfl) (pe_op op_cat (pe_slice sl_list (pv 2) po_none (po_some (pe_un un_neg (pv 6)))) (pe_lst (pa_cons (pe_call GJ hr rfl mJ kJ bJ .nil pass0 (pa_cons (pv 5) (pa_cons (pe_slice sl_list (pv 2) (po_some (pe_un un_neg (pv 6))) po_none) pa_nil))) pa_nil))))))
      (pss_one (ps_if (PT_imp (t' := tPile3) (PW.pt (pw_and (pt_cmpR (op_neE hu) (pv 3) (pe_lst pa_nil) (nomark _)) (pw_and1 (pt_cmpR op_lt (pv 5) pe_int (nomark _))))) (by
                rintro σ H Q ⟨lf, kk, left, e1, e2, hv, k⟩
                refine ⟨_, e1, small (by show (0:Nat) ≤ 100000; decide), fun r3 n3 => ?_⟩
                have s3 := same_new n3 (.lst [])
                refine ⟨lf, r3, _, rfl, rfl, SqL.of (s3 _ _ hv), SqL.of upd_same, _, rfl, ?_⟩
                cases left with
                | nil => exact iteF (k false _ s3 (fun e => nomatch e))
                | cons v0 vs0 => exact iteT ⟨_, e2, _, _, rfl, rfl, _, rfl, k _ _ s3 fun _ => by simp⟩))
      (pss_one (ps_expr (pe_bm PySem.F.plainAttrs_list PySem.F.slot_list_append PySem.F.type_list_append mt_append (pv 2) (pa_cons (pe_tup (pa_cons pe_str (pa_cons (pe_bm0 PySem.F.plainAttrs_list PySem.F.slot_list_pop PySem.F.type_list_pop mt_pop (pv 3)) pa_nil))) pa_nil))))
      (pss_one (ps_if (pt_cmpR op_eq (pv 5) pe_int (nomark _))
      (pss_one (ps_expr (pe_bm PySem.F.plainAttrs_list PySem.F.slot_list_append PySem.F.type_list_append mt_append (pv 2) (pa_cons (pe_tup (pa_cons pe_str pa_nil)) pa_nil))))
      pss_nil))))))))))
      (pss_cons (ps_if (pt_cmpR (op_eqE hu) (pv 2) (pe_lst pa_nil) (nomark _))
      (pss_one (ps_ret (pe_tup (pa_cons pe_str pa_nil))))
      pss_nil)
      (pss_one (ps_ret (pe_call GJ hr rfl mJ kJ bJ .nil pass0 (pa_cons (pe_callB (cr_sum rfl) (by rfl) T.sum (by decide +kernel) (pa_cons (pv 0) pa_nil)) (pa_cons (pv 2) pa_nil))))))))), ?_⟩
  refine ⟨small (by show (0:Nat) ≤ 100000; decide), fun r0 n0 => ?_⟩
  have s0 := same_new n0 (.lst [])
  refine ⟨_, rfl, lp, _, rfl, .inl (SqL.of (s0 _ _ hlp)), fun lf n1 => ?_⟩
  have s1 := same_new n1 (.lst (pool.map V.str))
  have hne : r0 ≠ lf := ne_of_none upd_same n1
  have P0' : Pile H (upd (upd H r0 (.lst [])) lf (.lst (pool.map V.str))) pool r0 lf [] [] pool 0 :=
    ⟨s0.trans s1, n0, s0.free n1, s1 _ _ upd_same, upd_same, hne, .nil, Nat.le_refl _, Nat.le_refl _, by rw [FairL]; trivial, by rw [signsL]; exact List.Perm.refl _⟩
  refine ⟨_, rfl, ln, rfl, ⟨_, SqL.of (P0'.same _ _ hln)⟩, for_list (K := K) (a := ln) (xs := ns.map V.int) (fun i σ H2 => ∃ r vs ps left v4 v5 v6, σ = [some (.ref ln), some (.ref lp), some (.ref r), some (.ref lf), v4, v5, v6] ∧ Pile H H2 pool r lf vs ps left i)
      ⟨r0, [], [], pool, none, none, none, rfl, P0'⟩ (fun i σ H2 _ ⟨_, _, _, _, _, _, _, _, p⟩ => SqL.of (p.same _ _ hln)) ?_ ?_⟩
  · rintro i x σ H2 hx ⟨r, vs, ps, left, v4, v5, v6, rfl, pl⟩
    obtain ⟨z, hz, rfl⟩ := int_at hx
    have hi : i < 19 := by
      have := (List.getElem?_eq_some_iff.mp hz).1
      omega
    refine ⟨_, rfl, _, _, rfl, rfl, (by show (0 : Int) < 9; decide), ?_⟩
    have k0 := Int.emod_nonneg z (b := 9) (by decide)
    refine ⟨r, z % 9, vs, ps, rfl, rfl, pl.hr, pl.pa.mono (era_same _ _), fun b H3 s3 hb => ?_⟩
    have pl3 := pl.mono s3
    cases b with
    | true =>
      obtain ⟨hne0, hk3⟩ := hb rfl
      refine iteT ?_
      obtain ⟨us, u, qs, q0, ev, ep, h3, h4⟩ := patsAt_last pl3.pa hne0
      subst ev ep
      refine ⟨small (by show (3:Nat) ≤ 100000; decide), fun r4 n4 => ?_⟩
      have s4 := same_new n4 (.lst (wraps.map V.str))
      have pl4 := pl3.mono s4
      have h4' : PatAt (era (upd H3 r4 (.lst (wraps.map V.str))) [r, lf]) u q0 := h4.mono (era_mono _ s4)
      have h3' : PatsAt (era (upd H3 r4 (.lst (wraps.map V.str))) [r, lf]) us qs := h3.mono (era_mono _ s4)
      obtain ⟨tg, w0, htg, hw⟩ : ∃ tg w0, atI (wraps.map V.str) (z % 9) = some (.str tg) ∧ ((tg = "maybe" ∧ w0 = Pat.maybe q0) ∨ (tg = "many" ∧ w0 = Pat.many q0) ∨ (tg = "some" ∧ w0 = Pat.some q0)) := by
        have : z % 9 = ((0 : Nat) : Int) ∨ z % 9 = ((1 : Nat) : Int) ∨ z % 9 = ((2 : Nat) : Int) := by omega
        rcases this with e | e | e
        · exact ⟨"maybe", _, by rw [e]; exact atI_nat rfl, .inl ⟨rfl, rfl⟩⟩
        · exact ⟨"many", _, by rw [e]; exact atI_nat rfl, .inr (.inl ⟨rfl, rfl⟩)⟩
        · exact ⟨"some", _, by rw [e]; exact atI_nat rfl, .inr (.inr ⟨rfl, rfl⟩)⟩
      refine ⟨_, rfl, r4, _, _, .str tg, rfl, rfl, SqL.of upd_same, htg, _, rfl, _, rfl, r, _, _, u, rfl, rfl, SqL.of pl4.hr, at_neg1 last_at, small (by show (2:Nat) ≤ 100000; decide), fun t nt => ?_⟩
      obtain ⟨s5, et⟩ := era2_new pl4.hr pl4.hl nt (.tup [.str tg, u])
      have pl5 := pl4.mono (same_new nt (.tup [.str tg, u]))
      refine ⟨_, rfl, _, rfl, r, us ++ [u], _, _, rfl, rfl, pl5.hr, ixN_neg1 (by simp), ?_⟩
      have hw0 : depth w0 = depth q0 + 1 ∧ (Fair w0 ↔ Fair q0) ∧ signs w0 = signs q0 := by
        rcases hw with ⟨_, rfl⟩ | ⟨_, rfl⟩ | ⟨_, rfl⟩
        · exact ⟨by rw [depth], by rw [Fair], by rw [signs]⟩
        · exact ⟨by rw [depth], by rw [Fair], by rw [signs]⟩
        · exact ⟨by rw [depth], by rw [Fair], by rw [signs]⟩
      have hp : PatAt (era (upd (upd H3 r4 (.lst (wraps.map V.str))) t (.tup [.str tg, u])) [r, lf]) (.ref t) w0 := by
        have hq := h4'.mono s5
        rcases hw with ⟨rfl, rfl⟩ | ⟨rfl, rfl⟩ | ⟨rfl, rfl⟩
        · exact .maybe et hq
        · exact .many et hq
        · exact .some et hq
      have d1 := pl5.dep
      rw [depthL_append, depthL_one] at d1
      have f1 := pl5.fair
      rw [FairL_append, FairL_one] at f1
      have pm := pl5.perm
      rw [signsL_snoc] at pm
      refine ⟨r, us ++ [.ref t], qs ++ [w0], left, _, _, _, rfl, ⟨same_upd pl5.same pl5.fr _, pl5.fr, pl5.fl, by rw [upd_same, set_last], by rw [upd_ne pl5.ne.symm]; exact pl5.hl, pl5.ne, ?_, ?_, ?_, ?_, ?_⟩⟩
      · rw [era_upd_in (by simp)]
        exact (h3'.mono s5).app (.cons hp .nil)
      · have := pl5.len
        rw [List.length_append] at this ⊢
        exact Nat.le_succ_of_le this
      · rw [depthL_append, depthL_one, hw0.1]; omega
      · rw [FairL_append, FairL_one, hw0.2.1]; exact f1
      · rw [signsL_snoc, hw0.2.2]; exact pm
    | false =>
      refine iteF ⟨r, z % 9, vs, rfl, rfl, pl3.hr, fun b hb => ?_⟩
      cases b with
      | true =>
        have hl1 := hb rfl
        refine iteT ?_
        refine ⟨_, rfl, _, _, rfl, rfl, ⟨by decide, by decide⟩, _, _, rfl, rfl, (by show (0 : Int) < 2; decide), _, _, rfl, rfl, ?_⟩
        obtain ⟨m, em, hm0⟩ : ∃ m : Nat, 2 + z / 9 % 2 = (m : Int) ∧ 2 ≤ m := by
          have h0 := Int.emod_nonneg (z / 9) (b := 2) (by decide)
          exact ⟨(2 + z / 9 % 2).toNat, by omega, by omega⟩
        have hm : 0 < m := by omega
        refine ⟨_, rfl, _, rfl, _, rfl, _, rfl, r, vs, rfl, SqL.of pl3.hr, fun p1 n1' => ?_⟩
        have e1 : cutV vs none (some (-(2 + z / 9 % 2))) = vs.take (vs.length - m) := by rw [em]; exact cut_to_neg hm
        have e2 : cutV vs (some (-(2 + z / 9 % 2))) none = vs.drop (vs.length - m) := by rw [em]; exact cut_from_neg hm
        have s4 := same_new n1' (.lst (cutV vs none (some (-(2 + z / 9 % 2)))))
        have pl4 := pl3.mono s4
        refine ⟨_, rfl, _, rfl, _, rfl, _, rfl, _, rfl, r, vs, rfl, SqL.of pl4.hr, fun p2 n2' => ?_⟩
        have s5 := same_new n2' (.lst (cutV vs (some (-(2 + z / 9 % 2))) none))
        have pl5 := pl4.mono s5
        have evl := pl5.pa.len
        have hdrop := pl5.pa.drop (vs.length - m)
        have hp2 : p2 ∉ [r, lf] := fun m => by
          rcases List.mem_cons.mp m with e | m
          · rw [e, pl4.hr] at n2'; cases n2'
          · rw [List.mem_singleton.mp m, pl4.hl] at n2'; cases n2'
        refine ⟨_, p2, _, ps.drop (vs.length - m), [r, lf], rfl, upd_same, hp2, ?_, ?_, ?_⟩
        · intro a ha
          rcases List.mem_cons.mp ha with e | ha
          · rw [e]; exact ⟨_, pl5.hr⟩
          · rw [List.mem_singleton.mp ha]; exact ⟨_, pl5.hl⟩
        · rw [← e2] at hdrop; exact hdrop
        intro v0 q0 H6 s6 pv0 jn
        have pl6 := pl5.mono s6
        refine ⟨small (by show (1:Nat) ≤ 100000; decide), fun p3 n3' => ?_⟩
        have s7 := same_new n3' (.lst [v0])
        have hp1 : upd H6 p3 (.lst [v0]) p1 = some (.lst (vs.take (vs.length - m))) := s7 _ _ (s6 _ _ (s5 _ _ (by rw [upd_same, e1])))
        have lvs : vs.length ≤ 19 := by
          have := pl6.len
          omega
        refine ⟨p1, p3, _, _, rfl, rfl, hp1, upd_same, ?_, fun p4 n4' => ?_⟩
        · rw [List.length_take]; exact small (by show _ + 1 ≤ _; omega)
        have s8 := same_new n4' (.lst (vs.take (vs.length - m) ++ [v0]))
        have pl7 := pl6.mono s7
        have pl8 := pl7.mono s8
        have s678 := (s7.trans s8)
        have n4H : H p4 = none := pl7.same.free n4'
        have n4lf : p4 ≠ lf := fun e => by rw [e, pl7.hl] at n4'; cases n4'
        -- what stood ahead of the new list keeps apart of it
        have keep : Same (era H6 [r, lf]) (era (upd (upd H6 p3 (.lst [v0])) p4 (.lst (vs.take (vs.length - m) ++ [v0]))) [p4, lf]) := fun b o hb => by
          obtain ⟨h1, h2⟩ := era_some hb
          have h2' : b ≠ lf := fun e => h2 (by simp [e])
          have hb4 : b ≠ p4 := ne_of_none (s7 _ _ h1) n4'
          rw [era_out (by simp [h2', hb4])]
          exact s678 _ _ h1
        have split : ps.take (vs.length - m) ++ ps.drop (vs.length - m) = ps := List.take_append_drop _ _
        have d1 := pl8.dep
        have f1 := pl8.fair
        have pm := pl8.perm
        have d2 := joinOf_depth jn
        rw [← split, depthL_append] at d1
        rw [← split, FairL_append] at f1
        rw [← split, signsL_append] at pm
        have ld : 0 < (ps.drop (vs.length - m)).length := by rw [List.length_drop]; omega
        have ld2 : (ps.drop (vs.length - m)).length ≤ 1000 := by rw [List.length_drop]; omega
        refine ⟨p4, vs.take (vs.length - m) ++ [v0], ps.take (vs.length - m) ++ [q0], left, _, _, _, rfl, ⟨pl8.same, n4H, pl8.fl, upd_same, pl8.hl, n4lf, ?_, ?_, ?_, ?_, ?_⟩⟩
        · exact ((pl6.pa.take (vs.length - m)).mono keep).app (.cons (pv0.mono keep) .nil)
        · have := pl8.len
          rw [List.length_append, List.length_take, List.length_singleton]
          omega
        · rw [depthL_append, depthL_one]; omega
        · rw [FairL_append, FairL_one]
          exact ⟨f1.1, joinOf_fair jn ld ld2 f1.2⟩
        · rw [signsL_snoc, joinOf_signs jn]; exact pm
      | false =>
        refine iteF ⟨lf, z % 9, left.map V.str, rfl, rfl, pl3.hl, fun b H4 s4 hb4 => ?_⟩
        have pl4 := pl3.mono s4
        have lvs : vs.length ≤ 19 := by
          have := pl4.pa.len
          have := pl4.len
          omega
        cases b with
        | true =>
          refine iteT ?_
          have hne4 := hb4 rfl
          obtain ⟨l0, x0, el⟩ : ∃ l0 x0, left = l0 ++ [x0] := by
            have : left ≠ [] := fun e => by subst e; exact hne4 rfl
            exact ⟨left.dropLast, left.getLast this, (List.dropLast_concat_getLast this).symm⟩
          subst el
          have em : (l0 ++ [x0]).map V.str = l0.map V.str ++ [.str x0] := by rw [List.map_append]; rfl
          refine ⟨_, rfl, .inl ⟨rfl, _, SqL.of pl4.hr⟩, _, rfl, .inl ⟨rfl, _, SqL.of pl4.hl⟩, lf, _, .str x0, rfl, rfl, pl4.hl, by rw [em]; exact last_at, small (by show (2:Nat) ≤ 100000; decide), fun t nt => ?_⟩
          have hr5 : upd H4 lf (.lst ((l0 ++ [x0]).map V.str).dropLast) r = some (.lst vs) := by rw [upd_ne pl4.ne]; exact pl4.hr
          have hl5 : upd H4 lf (.lst ((l0 ++ [x0]).map V.str).dropLast) lf = some (.lst (l0.map V.str)) := by rw [upd_same, em, List.dropLast_concat]
          obtain ⟨s6, et⟩ := era2_new hr5 hl5 nt (.tup [.str "one", .str x0])
          rw [era_upd_in (by simp)] at s6
          refine ⟨r, vs, .ref t, rfl, rfl, ?_, smaller (by omega), ?_⟩
          · rw [upd_ne (ne_of_none hr5 nt)]; exact hr5
          have pm := pl4.perm
          have s5 := same_upd pl4.same pl4.fl (.lst ((l0 ++ [x0]).map V.str).dropLast)
          refine ⟨r, vs ++ [.ref t], ps ++ [.one x0], l0, _, _, _, rfl, ⟨same_upd (s5.trans (same_new nt _)) pl4.fr _, pl4.fr, pl4.fl, upd_same, ?_, pl4.ne, ?_, ?_, ?_, ?_, ?_⟩⟩
          · rw [upd_ne pl4.ne.symm, upd_ne (ne_of_none hl5 nt)]; exact hl5
          · rw [era_upd_in (by simp)]
            exact (pl4.pa.mono s6).app (.cons (.one et) .nil)
          · rw [List.length_append]; exact Nat.succ_le_succ pl4.len
          · rw [depthL_append, depthL_one, depth, Nat.max_zero]; exact Nat.le_succ_of_le pl4.dep
          · rw [FairL_append, FairL_one, Fair]; exact ⟨pl4.fair, trivial⟩
          · rw [signsL_snoc, signs, List.append_assoc]
            exact (List.Perm.append_left _ List.perm_append_comm).trans pm
        | false =>
          refine iteF ⟨_, rfl, rfl, _, rfl, ite2 (fun c => ?_) (fun c => ⟨r, vs, ps, left, _, _, _, rfl, pl4.up⟩)⟩
          refine ⟨_, rfl, .inl ⟨rfl, _, SqL.of pl4.hr⟩, small (by show (1:Nat) ≤ 100000; decide), fun t nt => ?_⟩
          obtain ⟨s6, et⟩ := era2_new pl4.hr pl4.hl nt (.tup [.str "none"])
          have pl5 := pl4.mono (same_new nt (.tup [.str "none"]))
          refine ⟨r, vs, .ref t, rfl, rfl, pl5.hr, smaller (by omega), ?_⟩
          refine ⟨r, vs ++ [.ref t], ps ++ [.none], left, _, _, _, rfl, ⟨same_upd pl5.same pl5.fr _, pl5.fr, pl5.fl, upd_same, ?_, pl5.ne, ?_, ?_, ?_, ?_, ?_⟩⟩
          · rw [upd_ne pl5.ne.symm]; exact pl5.hl
          · rw [era_upd_in (by simp)]
            exact pl5.pa.app (.cons (.none et) .nil)
          · rw [List.length_append]; exact Nat.succ_le_succ pl5.len
          · rw [depthL_append, depthL_one, depth, Nat.max_zero]; exact Nat.le_succ_of_le pl5.dep
          · rw [FairL_append, FairL_one, Fair]; exact ⟨pl5.fair, trivial⟩
          · rw [signsL_snoc, signs, List.append_nil]; exact pl5.perm
  · rintro σ H2 ⟨r, vs, ps, left, v4, v5, v6, rfl, pl⟩
    rw [List.length_map] at pl
    refine ⟨_, rfl, small (by show (0:Nat) ≤ 100000; decide), fun r3 n3 => ?_⟩
    have s3 := same_new n3 (.lst [])
    have pl3 := pl.mono s3
    refine ⟨r, r3, _, rfl, rfl, SqL.of pl3.hr, SqL.of upd_same, _, rfl, ?_⟩
    have el := pl3.pa.len
    cases vs with
    | nil =>
      refine iteT ⟨small (by show (1:Nat) ≤ 100000; decide), fun t nt => ?_⟩
      refine q (.ref t) .none _ (pl3.same.trans (same_new nt _)) (.none upd_same) (by rw [depth]; omega) (by rw [Fair]; trivial) ⟨pool, ?_⟩
      rw [signs]; exact List.Perm.refl _
    | cons v0 vs0 =>
      refine iteF ⟨_, rfl, ln, ns, rfl, SqL.of (pl3.same _ _ hln), _, rfl, ns.sum, r, v0 :: vs0, ps, [], rfl, pl3.hr, by simp, (fun a ha => by cases ha), pl3.pa.mono (fun b o h => by rw [era_out (by simp)]; exact (era_some h).1), fun v p H' s pa jn => ?_⟩
      have := pl3.dep
      have := pl3.len
      have d := joinOf_depth jn
      refine q v p H' (pl3.same.trans s) (pa.mono (era_same _ _)) (by omega) (joinOf_fair jn (by rw [← el]; simp) (by omega) pl3.fair) ⟨left, ?_⟩
      rw [joinOf_signs jn]; exact pl3.perm
end
end FW

end
section
namespace FW
open PySem L2 FF
theorem PS_imp {X : Cx} {st : Stmt} {t t' : TS} (h : PS X st t) (i : ∀ D σ H, t' D σ H → t D σ H) : PS X st t' := ⟨fun pins s σ H D I q => h.run pins s σ H D I (i D σ H q)⟩
theorem set_same {σ : St} {i : Nat} {v : V} (h : σ[i]? = some (some v)) : σ.set i (some v) = σ := by
  obtain ⟨hi, e⟩ := List.getElem?_eq_some_iff.mp h
  apply List.ext_getElem?
  intro j
  by_cases hj : i = j
  · subst hj
    rw [List.getElem?_set_self hi, h]
  · rw [List.getElem?_set_ne hj]
/-- take one of the feed, where there is one -/
def tFeed : TS := fun D σ H => ∃ f ns, σ[1]? = some (some (.ref f)) ∧ σ[2]? = some (some (.int 0)) ∧ H f = some (.lst ((ns : List Int).map V.int)) ∧
  ∀ (t : Int) (ns1 : List Int) H1, Same (era H [f]) (era H1 [f]) → (∀ b, H1 b = none → H b = none) → H1 f = some (.lst (ns1.map V.int)) → ((ns1.length = ns.length ∧ ns = [] ∧ t = 0) ∨ ns1.length + 1 = ns.length) → D.nx (σ.set 2 (some (.int t))) H1
theorem sback {H H' : Hp} (s : Same H H') : ∀ b, H' b = none → H b = none := fun b h => s.free h
def Bnd (s : Nat) : Nat → Nat
  | 0 => 0
  | k + 1 => s + 7 * k
theorem Bnd_succ {s : Nat} (h : s ≤ 7) (k : Nat) : Bnd s k + s ≤ Bnd s (k + 1) := by
  cases k with
  | zero => show 0 + s ≤ s + 7 * 0; omega
  | succ k => show s + 7 * k + s ≤ s + 7 * (k + 1); omega
theorem Bnd_three {s M : Nat} (h : M ≤ 3) (h7 : s ≤ 7) : Bnd s M ≤ s + 14 := by
  match M, h with
  | 0, _ => show 0 ≤ s + 14; omega
  | 1, _ => show s + 7 * 0 ≤ s + 14; omega
  | 2, _ => show s + 7 * 1 ≤ s + 14; omega
  | 3, _ => show s + 7 * 2 ≤ s + 14; omega
theorem Bnd_one {s M : Nat} (h : M ≤ 1) : Bnd s M ≤ s := by
  match M, h with
  | 0, _ => show 0 ≤ s; omega
  | 1, _ => show s + 7 * 0 ≤ s; omega
section
variable {P : Program} {w : World} {K : PySem.W.Frag} {mg : Str → Option Value} {base : Heap} {C : Kd → Addr} {n : Nat} {f : Addr} {fd : FuncData}
def spGrown (n : Nat) : Sp := fun vs H Q _ => ∃ (v : V) (p : P0) (fe : Addr) (ns : List Int), vs = [v, .ref fe] ∧ PatAt (era H [fe]) v p ∧ Fat n p ∧ (signs p).length ≤ 7 ∧ H fe = some (.lst (ns.map V.int)) ∧ ns.length ≤ 50 ∧
  ∀ (r : Addr) (l : List Str) (ns' : List Int) (H' : Hp), Same (era H [fe]) (era H' [fe]) → (∀ b, H' b = none → H b = none) → H' fe = some (.lst (ns'.map V.int)) → H' r = some (.lst (l.map V.str)) → H r = none → Lang p l →
    l.length + 14 * ns'.length ≤ (signs p).length + 14 * ns.length → Q (.ref r) H'
theorem scGrown : FnScope ["_law_pattern_here", "_law_feed", "_law_turn", "_law_found", "_law_one", "_law_many", "_law_k"] ["_law_pattern_here", "_law_feed"] (defScope sGrown) := ⟨rfl, rfl, rfl, by decide +kernel, rfl, by decide +kernel, by decide +kernel⟩
theorem era1_get {H H' : Hp} {f b : Addr} {o : HO} (s : Same (era H [f]) (era H' [f])) (h : era H [f] b = some o) : H' b = some o := (era_some (s b o h)).1
theorem ok_Grown (F : Fun K "_law_grown" "_law_grown" sGrown f fd) (T : Txt K mg C) (G : FnOk P w K mg base CX0 n f fd ["_law_pattern_here", "_law_feed"] (spGrown n)) (mF : mg "_law_grown" = some (.ref f)) (bF : Binds K fd ["_law_pattern_here", "_law_feed"] []) :
    FnOk P w K mg base CX0 (n + 1) f fd ["_law_pattern_here", "_law_feed"] (spGrown (n + 1)) := by
  refine F.ok scGrown (fun vs H Q E h => ?_) (fun cdv A outer s H vs Q E hr h => ?_)
  · obtain ⟨v, p, fe, ns, rfl, _⟩ := h
    rfl
  obtain ⟨v, p, fe, ns, rfl, pa, fat, h7, hf, h44, q⟩ := h
  have hu := room_u hr
  refine ⟨_, pss_cons (ps_set (i := 2) scGrown.nd rfl (Or.inl rfl) pe_int)
    (pss_cons (PS_imp (t' := tFeed) (ps_if (pt_cmpR (op_neE hu) (pv 1) (pe_lst pa_nil) (nomark _)) (pss_one (ps_set (i := 2) scGrown.nd rfl (Or.inl rfl) (pe_bm0 PySem.F.plainAttrs_list PySem.F.slot_list_pop PySem.F.type_list_pop mt_pop (pv 1)))) pss_nil)
      (by
        rintro D σ H ⟨f, ns, e1, e2, hf, k⟩
        refine ⟨_, e1, small (by show (0:Nat) ≤ 100000; decide), fun r3 n3 => ?_⟩
        have s3 := same_new n3 (.lst [])
        refine ⟨f, r3, _, rfl, rfl, SqL.of (s3 _ _ hf), SqL.of upd_same, _, rfl, ?_⟩
        cases ns with
        | nil =>
          refine iteF ?_
          have := k 0 [] _ (era_mono _ s3) (sback s3) (s3 _ _ hf) (.inl ⟨rfl, rfl, rfl⟩)
          rw [set_same e2] at this
          exact this
        | cons z zs =>
          refine iteT ?_
          obtain ⟨l0, x0, el⟩ : ∃ l0 x0, z :: zs = l0 ++ [x0] := ⟨_, _, (List.dropLast_concat_getLast (by simp)).symm⟩
          rw [el] at hf k
          have em : (l0 ++ [x0]).map V.int = l0.map V.int ++ [.int x0] := by rw [List.map_append]; rfl
          refine ⟨_, e1, .inl ⟨rfl, _, SqL.of (s3 _ _ hf)⟩, f, _, .int x0, rfl, rfl, s3 _ _ hf, by rw [em]; exact last_at, k x0 l0 _ ?_ (fun b hb => ?_) ?_ (.inr ?_)⟩
          · rw [era_upd_in (by simp)]
            exact era_mono _ s3
          · by_cases e : b = f
            · rw [e, upd_same] at hb; cases hb
            · rw [upd_ne e] at hb; exact sback s3 b hb
          · rw [upd_same, em, List.dropLast_concat]
          · rw [List.length_append]; rfl))
    (pss_cons (ps_if (PT_imp (pt_cmpR op_eq (pe_ix ix_tup (pv 0) pe_int (fun _ _ => rfl)) pe_str (nomark _)) tag_imp) (pss_one (ps_ret (pe_lst pa_nil))) pss_nil)
    (pss_cons (ps_if (PT_imp (pt_cmpR op_eq (pe_ix ix_tup (pv 0) pe_int (fun _ _ => rfl)) pe_str (nomark _)) tag_imp) (pss_one (ps_ret (pe_lst (pa_cons (pe_ix ix_tup (pv 0) pe_int (fun _ _ => rfl)) pa_nil)))) pss_nil)
    (pss_cons (ps_if (PT_imp (pt_cmpR op_eq (pe_ix ix_tup (pv 0) pe_int (fun _ _ => rfl)) pe_str (nomark _)) tag_imp)
      (pss_one (ps_ret (pe_call G hr rfl mF F.kp bF .nil pass0 (pa_cons (pe_ix ix_list (pe_ix ix_tup (pv 0) pe_int (fun _ _ => rfl)) (pe_op op_mod (pv 2) (pe_callB call_len_seq (by rfl) T.len PySem.boot_len (pa_cons (pe_ix ix_tup (pv 0) pe_int (fun _ _ => rfl)) pa_nil))) (fun _ _ => rfl)) (pa_cons (pv 1) pa_nil))))) pss_nil)
    (pss_cons (ps_set (i := 3) scGrown.nd rfl (Or.inl rfl) (pe_lst pa_nil))
    (pss_cons (ps_if (PT_imp (pt_cmpR op_eq (pe_ix ix_tup (pv 0) pe_int (fun _ _ => rfl)) pe_str (nomark _)) tag_imp)
      (pss_cons (ps_for PassesOwn.never rfl (pi_list (pe_ix ix_tup (pv 0) pe_int (fun _ _ => rfl))) (pg_name (i := 4) scGrown.nd rfl (Or.inl rfl))
          (pss_one (ps_set (i := 3) scGrown.nd rfl (Or.inl rfl) (pe_op op_cat (pv 3) (pe_call G hr rfl mF F.kp bF .nil pass0 (pa_cons (pv 4) (pa_cons (pv 1) pa_nil)))))))
        (pss_one (ps_ret (pv 3)))) pss_nil)
    (pss_cons (ps_set (i := 5) scGrown.nd rfl (Or.inl rfl) (pe_ix ix_list (pe_lst (pa_cons (pe_op op_mod (pv 2) pe_int) (pa_cons (pe_op op_mod (pv 2) pe_int) (pa_cons (pe_op op_add pe_int (pe_op op_mod (pv 2) pe_int)) pa_nil))))
        (pe_bm PySem.F.plainAttrs_list PySem.F.slot_list_index PySem.F.type_list_index mt_index (pe_lst (pa_cons pe_str (pa_cons pe_str (pa_cons pe_str pa_nil)))) (pa_cons (pe_ix ix_tup (pv 0) pe_int (fun _ _ => rfl)) pa_nil)) (fun _ _ => rfl)))
    (pss_cons (ps_for PassesOwn.never rfl (pi_range1 rfl T.range (pa_cons (pv 5) pa_nil)) (pg_name (i := 6) scGrown.nd rfl (Or.inl rfl))
        (pss_one (ps_set (i := 3) scGrown.nd rfl (Or.inl rfl) (pe_op op_cat (pv 3) (pe_call G hr rfl mF F.kp bF .nil pass0 (pa_cons (pe_ix ix_tup (pv 0) pe_int (fun _ _ => rfl)) (pa_cons (pv 1) pa_nil)))))))
    (pss_one (ps_ret (pv 3))))))))))), ?_⟩
  refine ⟨fe, ns, rfl, rfl, hf, fun t ns1 H1 s1 b1 f1 ht => ?_⟩
  have nf : ∀ {r : Addr} {H : Hp} {o : HO}, H fe = some o → H r = none → r ≠ fe := fun h n e => by rw [e, h] at n; cases n
  have hn1 : ns1.length ≤ ns.length := by rcases ht with ⟨h, _⟩ | h <;> omega
  have hn2 : ns1.length + 1 ≤ 50 := by
    rcases ht with ⟨h, e, _⟩ | h
    · rw [e] at h; rw [h]; show 0 + 1 ≤ 50; omega
    · omega
  have pa1 := pa.mono s1
  cases pa with
  | @none a ha =>
    obtain ⟨ha, _⟩ := era_some (s1 _ _ ha)
    refine ⟨a, _, _, rfl, ha, tagT ⟨small (by show (0:Nat) ≤ 100000; decide), fun r nr => ?_⟩⟩
    have s2 := same_new nr (.lst [])
    refine q r [] ns1 _ (s1.trans (era_mono _ s2)) (fun b hb => b1 b (sback s2 b hb)) (s2 _ _ f1) upd_same (b1 r nr) (by rw [Lang]) ?_
    show 0 + 14 * ns1.length ≤ _
    omega
  | @one a x ha =>
    obtain ⟨ha, _⟩ := era_some (s1 _ _ ha)
    refine ⟨a, _, _, rfl, ha, tagF (by decide +kernel) ⟨a, _, _, rfl, ha, tagT ?_⟩⟩
    refine ⟨_, rfl, a, _, _, _, rfl, rfl, SqT.of ha, at1, small (by show (1:Nat) ≤ 100000; decide), fun r nr => ?_⟩
    have s2 := same_new nr (.lst [.str x])
    refine q r [x] ns1 _ (s1.trans (era_mono _ s2)) (fun b hb => b1 b (sback s2 b hb)) (s2 _ _ f1) upd_same (b1 r nr) (by rw [Lang]) ?_
    rw [signs]
    show 1 + 14 * ns1.length ≤ 1 + _
    omega
  | @any a l vs ps ha hl hps =>
    have ha1 := era1_get s1 ha
    have hl1 := era1_get s1 hl
    refine ⟨a, _, _, rfl, ha1, tagF (by decide +kernel) ⟨a, _, _, rfl, ha1, tagF (by decide +kernel) ⟨a, _, _, rfl, ha1, tagT ?_⟩⟩⟩
    have hpos : 0 < vs.length := by
      have := fat.2
      rw [Fair] at this
      rw [hps.len]; exact this.2.1
    obtain ⟨k, ek, hk⟩ := mod_ix t hpos
    obtain ⟨u, hu⟩ : ∃ u, vs[k]? = some u := ⟨_, List.getElem?_eq_getElem hk⟩
    obtain ⟨p0, hp0, pu⟩ := hps.at_ hu
    have hm := List.mem_of_getElem? hp0
    have sk := signs_kid (p := .any ps) hm
    refine ⟨_, rfl, a, _, _, .ref l, rfl, rfl, SqT.of ha1, at1, _, rfl, _, rfl, a, _, _, .ref l, rfl, rfl, SqT.of ha1, at1, l, vs, rfl, .inl (SqL.of hl1), _, _, rfl, rfl, (by show (0 : Int) < (vs.length : Nat); omega), l, vs, _, u, rfl, rfl, SqL.of hl1, by rw [ek]; exact atI_nat hu, _, rfl, ?_⟩
    refine ⟨u, p0, fe, ns1, rfl, pu.mono s1, fat.kid hm, Nat.le_trans sk.1 h7, f1, by omega, fun r l' ns' H' s2 b2 f2 e2 n2 L2 le2 => ?_⟩
    refine q r l' ns' H' (s1.trans s2) (fun b hb => b1 b (b2 b hb)) f2 e2 (b1 r n2) (by rw [Lang]; exact LAny_mem.mpr ⟨p0, hm, L2⟩) ?_
    have := sk.1
    omega
  | @row a l vs ps ha hl hps =>
    have ha1 := era1_get s1 ha
    have hl1 := era1_get s1 hl
    refine ⟨a, _, _, rfl, ha1, tagF (by decide +kernel) ⟨a, _, _, rfl, ha1, tagF (by decide +kernel) ⟨a, _, _, rfl, ha1, tagF (by decide +kernel) ?_⟩⟩⟩
    refine ⟨small (by show (0:Nat) ≤ 100000; decide), fun r0 n0 => ?_⟩
    have s2 := same_new n0 (.lst [])
    refine ⟨a, _, _, rfl, s2 _ _ ha1, tagT ?_⟩
    have h7' := h7
    rw [signs] at h7'
    refine ⟨_, rfl, a, _, _, .ref l, rfl, rfl, SqT.of (s2 _ _ ha1), at1, l, rfl, ⟨_, SqL.of (s2 _ _ hl1)⟩,
      for_list (K := K) (a := l) (xs := vs) (fun i σ H3 => ∃ r3 v4 l3 ns3, σ = [some (.ref a), some (.ref fe), some (.int t), some (.ref r3), v4, none, none] ∧ Same (era H [fe]) (era H3 [fe]) ∧ (∀ b, H3 b = none → H b = none) ∧ H3 fe = some (.lst ((ns3 : List Int).map V.int)) ∧ H3 r3 = some (.lst ((l3 : List Str).map V.str)) ∧ r3 ≠ fe ∧ H r3 = none ∧
          LRow (ps.take i) l3 ∧ l3.length + 14 * ns3.length ≤ (signsL (ps.take i)).length + 14 * ns1.length)
        ⟨r0, none, [], ns1, rfl, s1.trans (era_mono _ s2), fun b hb => b1 b (sback s2 b hb), s2 _ _ f1, upd_same, nf f1 n0, b1 r0 n0, by rw [List.take_zero, LRow], by show 0 + 14 * ns1.length ≤ _; omega⟩
        (fun i σ H3 _ ⟨_, _, _, _, _, s3, _⟩ => SqL.of (era1_get s3 hl)) ?_ ?_⟩
    · rintro i x σ H3 hx ⟨r3, v4, l3, ns3, rfl, s3, b3, f3, e3, m3, n3, L3, le3⟩
      obtain ⟨p0, hp0, pu⟩ := hps.at_ hx
      have hm := List.mem_of_getElem? hp0
      have sk := signs_kid (p := .row ps) hm
      have e7 : (signsL (ps.take i)).length + (signs p0).length ≤ 7 := by
        have : signsL (ps.take (i + 1)) = signsL (ps.take i) ++ signs p0 := by rw [take_snoc hp0, signsL_snoc]
        have h2 : signsL ps = signsL (ps.take (i + 1)) ++ signsL (ps.drop (i + 1)) := by rw [← signsL_append, List.take_append_drop]
        rw [h2, this, List.length_append, List.length_append] at h7'
        omega
      refine ⟨_, rfl, _, rfl, _, rfl, x, p0, fe, ns3, rfl, pu.mono s3, fat.kid hm, by omega, f3, by omega, fun r l' ns' H' s4 b4 f4 e4 n4 L4 le4 => ?_⟩
      have e3' := era_get s4 e3 (by simp [m3])
      refine ⟨r3, r, _, _, rfl, rfl, e3', e4, ?_, fun r5 n5 => ?_⟩
      · rw [List.length_map, List.length_map]; exact small (by omega)
      have s5 := same_new n5 (.lst (l3.map V.str ++ l'.map V.str))
      refine ⟨r5, _, l3 ++ l', ns', rfl, (s3.trans s4).trans (era_mono _ s5), fun b hb => b3 b (b4 b (sback s5 b hb)), s5 _ _ f4, ?_, nf f4 n5, b3 r5 (b4 r5 n5), ?_, ?_⟩
      · rw [upd_same, List.map_append]
      · rw [take_snoc hp0]; exact LRow_snoc L3 L4
      · rw [take_snoc hp0, signsL_snoc, List.length_append, List.length_append]; omega
    · rintro σ H3 ⟨r3, v4, l3, ns3, rfl, s3, b3, f3, e3, m3, n3, L3, le3⟩
      rw [List.take_of_length_le (by rw [hps.len]; exact Nat.le_refl _)] at L3 le3
      refine ⟨_, rfl, q r3 l3 ns3 H3 s3 b3 f3 e3 n3 (by rw [Lang]; exact L3) ?_⟩
      rw [signs]; omega
  | @maybe a u p0 ha hp0 =>
    have ha1 := era1_get s1 ha
    refine ⟨a, _, _, rfl, ha1, tagF (by decide +kernel) ⟨a, _, _, rfl, ha1, tagF (by decide +kernel) ⟨a, _, _, rfl, ha1, tagF (by decide +kernel) ?_⟩⟩⟩
    refine ⟨small (by show (0:Nat) ≤ 100000; decide), fun r0 n0 => ?_⟩
    have s2 := same_new n0 (.lst [])
    refine ⟨a, _, _, rfl, s2 _ _ ha1, tagF (by decide +kernel) ?_⟩
    have es : (signs (Pat.maybe p0)).length = (signs p0).length := by rw [signs]
    have h7' : (signs p0).length ≤ 7 := by rw [← es]; exact h7
    have hm0 : ∃ M : Nat, t % 2 = (M : Int) ∧ M ≤ 3 ∧ (t = 0 → M ≤ 1) ∧ M < 2 := by
      have h0 := Int.emod_nonneg t (b := 2) (by decide)
      have h1 := Int.emod_lt_of_pos t (b := 2) (by decide)
      exact ⟨(t % 2).toNat, by omega, by omega, by omega, by first | omega | trivial⟩
    obtain ⟨M, eM, hM3, hM1, hMc⟩ := hm0
    refine ⟨_, rfl, _, _, rfl, rfl, (by show (0 : Int) < 2; decide), _, rfl, _, _, rfl, rfl, (by show (0 : Int) < 4; decide), _, rfl, _, _, rfl, rfl, (by show (0 : Int) < 3; decide), _, _, rfl, rfl, small (by show (3:Nat) ≤ 100000; decide), fun r4 n4 => ?_⟩
    have s4 := same_new n4 (.lst [.int (t % 2), .int (t % 4), .int (1 + t % 3)])
    refine ⟨small (by show (3:Nat) ≤ 100000; decide), fun r5 n5 => ?_⟩
    have s5 := same_new n5 (.lst (wraps.map V.str))
    have s25 := (s2.trans s4).trans s5
    refine ⟨.inl ⟨rfl, _, SqL.of upd_same⟩, _, rfl, a, _, _, .str "maybe", rfl, rfl, SqT.of (s25 _ _ ha1), at0, r5, wraps.map V.str, .str "maybe", 0, .str "maybe", rfl, rfl, SqL.of upd_same, rfl, flat_strs _, rfl, by decide +kernel, ?_, ?_⟩
    · intro m z' hm hz
      exact absurd hm (Nat.not_lt_zero _)
    refine ⟨r4, _, _, .int (t % 2), rfl, rfl, SqL.of (s5 _ _ upd_same), atI_nat (j := 0) rfl, ?_⟩
    refine ⟨_, rfl, (M : Int), by rw [eM], by omega, by omega, ?_⟩
    rw [Int.toNat_natCast]
    refine for_range (lo := 0) (n := M) (fun i σ H3 => ∃ r3 v6 l3 ns3, σ = [some (.ref a), some (.ref fe), some (.int t), some (.ref r3), none, some (.int (t % 2)), v6] ∧ Same (era H [fe]) (era H3 [fe]) ∧ (∀ b, H3 b = none → H b = none) ∧ H3 fe = some (.lst ((ns3 : List Int).map V.int)) ∧ H3 r3 = some (.lst ((l3 : List Str).map V.str)) ∧ r3 ≠ fe ∧ H r3 = none ∧
          Pow (Lang p0) i l3 ∧ l3.length + 14 * ns3.length ≤ Bnd (signs p0).length i + 14 * ns1.length)
        ⟨r0, none, [], ns1, rfl, s1.trans (era_mono _ s25), fun b hb => b1 b (sback s25 b hb), s25 _ _ f1, (s4.trans s5) _ _ upd_same, nf f1 n0, b1 r0 n0, rfl, by show 0 + 14 * ns1.length ≤ 0 + _; omega⟩ ?_ ?_
    · rintro i σ H3 hi ⟨r3, v6, l3, ns3, rfl, s3, b3, f3, e3, m3, n3, L3, le3⟩
      have hb := Bnd_succ h7' i
      have hb3 := Bnd_three (s := (signs p0).length) (M := i) (by omega) h7'
      refine ⟨_, rfl, _, rfl, a, _, _, u, rfl, rfl, SqT.of (era1_get s3 ha), at1, _, rfl, u, p0, fe, ns3, rfl, hp0.mono s3, fat.kid (List.mem_singleton.mpr rfl), h7', f3, by omega, fun r l' ns' H' s4 b4 f4 e4 n4 L4 le4 => ?_⟩
      have e3' := era_get s4 e3 (by simp [m3])
      refine ⟨r3, r, _, _, rfl, rfl, e3', e4, ?_, fun r5 n5 => ?_⟩
      · rw [List.length_map, List.length_map]; exact small (by omega)
      have s5 := same_new n5 (.lst (l3.map V.str ++ l'.map V.str))
      refine ⟨r5, _, l3 ++ l', ns', rfl, (s3.trans s4).trans (era_mono _ s5), fun b hb => b3 b (b4 b (sback s5 b hb)), s5 _ _ f4, ?_, nf f4 n5, b3 r5 (b4 r5 n5), ⟨l3, l', rfl, L3, L4⟩, ?_⟩
      · rw [upd_same, List.map_append]
      · rw [List.length_append]; omega
    · rintro σ H3 ⟨r3, v6, l3, ns3, rfl, s3, b3, f3, e3, m3, n3, L3, le3⟩
      refine ⟨_, rfl, q r3 l3 ns3 H3 s3 b3 f3 e3 n3 ?_ ?_⟩
      · rw [Lang]; exact Pow.maybe hMc L3
      · rw [es]
        rcases ht with ⟨hl, _, h0⟩ | hl
        · have := Bnd_one (s := (signs p0).length) (hM1 h0)
          omega
        · have := Bnd_three (s := (signs p0).length) hM3 h7'
          omega
  | @some a u p0 ha hp0 =>
    have ha1 := era1_get s1 ha
    refine ⟨a, _, _, rfl, ha1, tagF (by decide +kernel) ⟨a, _, _, rfl, ha1, tagF (by decide +kernel) ⟨a, _, _, rfl, ha1, tagF (by decide +kernel) ?_⟩⟩⟩
    refine ⟨small (by show (0:Nat) ≤ 100000; decide), fun r0 n0 => ?_⟩
    have s2 := same_new n0 (.lst [])
    refine ⟨a, _, _, rfl, s2 _ _ ha1, tagF (by decide +kernel) ?_⟩
    have es : (signs (Pat.some p0)).length = (signs p0).length := by rw [signs]
    have h7' : (signs p0).length ≤ 7 := by rw [← es]; exact h7
    have hm0 : ∃ M : Nat, 1 + t % 3 = (M : Int) ∧ M ≤ 3 ∧ (t = 0 → M ≤ 1) ∧ 0 < M := by
      have h0 := Int.emod_nonneg t (b := 3) (by decide)
      have h1 := Int.emod_lt_of_pos t (b := 3) (by decide)
      exact ⟨(1 + t % 3).toNat, by omega, by omega, by omega, by first | omega | trivial⟩
    obtain ⟨M, eM, hM3, hM1, hMc⟩ := hm0
    refine ⟨_, rfl, _, _, rfl, rfl, (by show (0 : Int) < 2; decide), _, rfl, _, _, rfl, rfl, (by show (0 : Int) < 4; decide), _, rfl, _, _, rfl, rfl, (by show (0 : Int) < 3; decide), _, _, rfl, rfl, small (by show (3:Nat) ≤ 100000; decide), fun r4 n4 => ?_⟩
    have s4 := same_new n4 (.lst [.int (t % 2), .int (t % 4), .int (1 + t % 3)])
    refine ⟨small (by show (3:Nat) ≤ 100000; decide), fun r5 n5 => ?_⟩
    have s5 := same_new n5 (.lst (wraps.map V.str))
    have s25 := (s2.trans s4).trans s5
    refine ⟨.inl ⟨rfl, _, SqL.of upd_same⟩, _, rfl, a, _, _, .str "some", rfl, rfl, SqT.of (s25 _ _ ha1), at0, r5, wraps.map V.str, .str "some", 2, .str "some", rfl, rfl, SqL.of upd_same, rfl, flat_strs _, rfl, by decide +kernel, ?_, ?_⟩
    · intro m z' hm hz
      match m, hm, hz with
      | 0, _, hz => cases hz; decide +kernel
      | 1, _, hz => cases hz; decide +kernel
    refine ⟨r4, _, _, .int (1 + t % 3), rfl, rfl, SqL.of (s5 _ _ upd_same), atI_nat (j := 2) rfl, ?_⟩
    refine ⟨_, rfl, (M : Int), by rw [eM], by omega, by omega, ?_⟩
    rw [Int.toNat_natCast]
    refine for_range (lo := 0) (n := M) (fun i σ H3 => ∃ r3 v6 l3 ns3, σ = [some (.ref a), some (.ref fe), some (.int t), some (.ref r3), none, some (.int (1 + t % 3)), v6] ∧ Same (era H [fe]) (era H3 [fe]) ∧ (∀ b, H3 b = none → H b = none) ∧ H3 fe = some (.lst ((ns3 : List Int).map V.int)) ∧ H3 r3 = some (.lst ((l3 : List Str).map V.str)) ∧ r3 ≠ fe ∧ H r3 = none ∧
          Pow (Lang p0) i l3 ∧ l3.length + 14 * ns3.length ≤ Bnd (signs p0).length i + 14 * ns1.length)
        ⟨r0, none, [], ns1, rfl, s1.trans (era_mono _ s25), fun b hb => b1 b (sback s25 b hb), s25 _ _ f1, (s4.trans s5) _ _ upd_same, nf f1 n0, b1 r0 n0, rfl, by show 0 + 14 * ns1.length ≤ 0 + _; omega⟩ ?_ ?_
    · rintro i σ H3 hi ⟨r3, v6, l3, ns3, rfl, s3, b3, f3, e3, m3, n3, L3, le3⟩
      have hb := Bnd_succ h7' i
      have hb3 := Bnd_three (s := (signs p0).length) (M := i) (by omega) h7'
      refine ⟨_, rfl, _, rfl, a, _, _, u, rfl, rfl, SqT.of (era1_get s3 ha), at1, _, rfl, u, p0, fe, ns3, rfl, hp0.mono s3, fat.kid (List.mem_singleton.mpr rfl), h7', f3, by omega, fun r l' ns' H' s4 b4 f4 e4 n4 L4 le4 => ?_⟩
      have e3' := era_get s4 e3 (by simp [m3])
      refine ⟨r3, r, _, _, rfl, rfl, e3', e4, ?_, fun r5 n5 => ?_⟩
      · rw [List.length_map, List.length_map]; exact small (by omega)
      have s5 := same_new n5 (.lst (l3.map V.str ++ l'.map V.str))
      refine ⟨r5, _, l3 ++ l', ns', rfl, (s3.trans s4).trans (era_mono _ s5), fun b hb => b3 b (b4 b (sback s5 b hb)), s5 _ _ f4, ?_, nf f4 n5, b3 r5 (b4 r5 n5), ⟨l3, l', rfl, L3, L4⟩, ?_⟩
      · rw [upd_same, List.map_append]
      · rw [List.length_append]; omega
    · rintro σ H3 ⟨r3, v6, l3, ns3, rfl, s3, b3, f3, e3, m3, n3, L3, le3⟩
      refine ⟨_, rfl, q r3 l3 ns3 H3 s3 b3 f3 e3 n3 ?_ ?_⟩
      · rw [Lang]; obtain ⟨M', rfl⟩ : ∃ M', M = M' + 1 := ⟨M - 1, by omega⟩; exact Pow.some L3
      · rw [es]
        rcases ht with ⟨hl, _, h0⟩ | hl
        · have := Bnd_one (s := (signs p0).length) (hM1 h0)
          omega
        · have := Bnd_three (s := (signs p0).length) hM3 h7'
          omega
  | @many a u p0 ha hp0 =>
    have ha1 := era1_get s1 ha
    refine ⟨a, _, _, rfl, ha1, tagF (by decide +kernel) ⟨a, _, _, rfl, ha1, tagF (by decide +kernel) ⟨a, _, _, rfl, ha1, tagF (by decide +kernel) ?_⟩⟩⟩
    refine ⟨small (by show (0:Nat) ≤ 100000; decide), fun r0 n0 => ?_⟩
    have s2 := same_new n0 (.lst [])
    refine ⟨a, _, _, rfl, s2 _ _ ha1, tagF (by decide +kernel) ?_⟩
    have es : (signs (Pat.many p0)).length = (signs p0).length := by rw [signs]
    have h7' : (signs p0).length ≤ 7 := by rw [← es]; exact h7
    have hm0 : ∃ M : Nat, t % 4 = (M : Int) ∧ M ≤ 3 ∧ (t = 0 → M ≤ 1) ∧ True := by
      have h0 := Int.emod_nonneg t (b := 4) (by decide)
      have h1 := Int.emod_lt_of_pos t (b := 4) (by decide)
      exact ⟨(t % 4).toNat, by omega, by omega, by omega, by first | omega | trivial⟩
    obtain ⟨M, eM, hM3, hM1, hMc⟩ := hm0
    refine ⟨_, rfl, _, _, rfl, rfl, (by show (0 : Int) < 2; decide), _, rfl, _, _, rfl, rfl, (by show (0 : Int) < 4; decide), _, rfl, _, _, rfl, rfl, (by show (0 : Int) < 3; decide), _, _, rfl, rfl, small (by show (3:Nat) ≤ 100000; decide), fun r4 n4 => ?_⟩
    have s4 := same_new n4 (.lst [.int (t % 2), .int (t % 4), .int (1 + t % 3)])
    refine ⟨small (by show (3:Nat) ≤ 100000; decide), fun r5 n5 => ?_⟩
    have s5 := same_new n5 (.lst (wraps.map V.str))
    have s25 := (s2.trans s4).trans s5
    refine ⟨.inl ⟨rfl, _, SqL.of upd_same⟩, _, rfl, a, _, _, .str "many", rfl, rfl, SqT.of (s25 _ _ ha1), at0, r5, wraps.map V.str, .str "many", 1, .str "many", rfl, rfl, SqL.of upd_same, rfl, flat_strs _, rfl, by decide +kernel, ?_, ?_⟩
    · intro m z' hm hz
      match m, hm, hz with
      | 0, _, hz => cases hz; decide +kernel
    refine ⟨r4, _, _, .int (t % 4), rfl, rfl, SqL.of (s5 _ _ upd_same), atI_nat (j := 1) rfl, ?_⟩
    refine ⟨_, rfl, (M : Int), by rw [eM], by omega, by omega, ?_⟩
    rw [Int.toNat_natCast]
    refine for_range (lo := 0) (n := M) (fun i σ H3 => ∃ r3 v6 l3 ns3, σ = [some (.ref a), some (.ref fe), some (.int t), some (.ref r3), none, some (.int (t % 4)), v6] ∧ Same (era H [fe]) (era H3 [fe]) ∧ (∀ b, H3 b = none → H b = none) ∧ H3 fe = some (.lst ((ns3 : List Int).map V.int)) ∧ H3 r3 = some (.lst ((l3 : List Str).map V.str)) ∧ r3 ≠ fe ∧ H r3 = none ∧
          Pow (Lang p0) i l3 ∧ l3.length + 14 * ns3.length ≤ Bnd (signs p0).length i + 14 * ns1.length)
        ⟨r0, none, [], ns1, rfl, s1.trans (era_mono _ s25), fun b hb => b1 b (sback s25 b hb), s25 _ _ f1, (s4.trans s5) _ _ upd_same, nf f1 n0, b1 r0 n0, rfl, by show 0 + 14 * ns1.length ≤ 0 + _; omega⟩ ?_ ?_
    · rintro i σ H3 hi ⟨r3, v6, l3, ns3, rfl, s3, b3, f3, e3, m3, n3, L3, le3⟩
      have hb := Bnd_succ h7' i
      have hb3 := Bnd_three (s := (signs p0).length) (M := i) (by omega) h7'
      refine ⟨_, rfl, _, rfl, a, _, _, u, rfl, rfl, SqT.of (era1_get s3 ha), at1, _, rfl, u, p0, fe, ns3, rfl, hp0.mono s3, fat.kid (List.mem_singleton.mpr rfl), h7', f3, by omega, fun r l' ns' H' s4 b4 f4 e4 n4 L4 le4 => ?_⟩
      have e3' := era_get s4 e3 (by simp [m3])
      refine ⟨r3, r, _, _, rfl, rfl, e3', e4, ?_, fun r5 n5 => ?_⟩
      · rw [List.length_map, List.length_map]; exact small (by omega)
      have s5 := same_new n5 (.lst (l3.map V.str ++ l'.map V.str))
      refine ⟨r5, _, l3 ++ l', ns', rfl, (s3.trans s4).trans (era_mono _ s5), fun b hb => b3 b (b4 b (sback s5 b hb)), s5 _ _ f4, ?_, nf f4 n5, b3 r5 (b4 r5 n5), ⟨l3, l', rfl, L3, L4⟩, ?_⟩
      · rw [upd_same, List.map_append]
      · rw [List.length_append]; omega
    · rintro σ H3 ⟨r3, v6, l3, ns3, rfl, s3, b3, f3, e3, m3, n3, L3, le3⟩
      refine ⟨_, rfl, q r3 l3 ns3 H3 s3 b3 f3 e3 n3 ?_ ?_⟩
      · rw [Lang]; exact Pow.star L3
      · rw [es]
        rcases ht with ⟨hl, _, h0⟩ | hl
        · have := Bnd_one (s := (signs p0).length) (hM1 h0)
          omega
        · have := Bnd_three (s := (signs p0).length) hM3 h7'
          omega
theorem all_Grown (F : Fun K "_law_grown" "_law_grown" sGrown f fd) (T : Txt K mg C) (mF : mg "_law_grown" = some (.ref f)) (bF : Binds K fd ["_law_pattern_here", "_law_feed"] []) :
    ∀ n, FnOk P w K mg base CX0 n f fd ["_law_pattern_here", "_law_feed"] (spGrown n)
  | 0 => none_self fun vs H Q E h => by obtain ⟨v, p, fe, ns, _, _, fat, _⟩ := h; exact Nat.not_lt_zero _ fat.1
  | n + 1 => ok_Grown F T (all_Grown F T mF bF n) mF bF
end
end FW

end
section
namespace FW
open PySem L2 FF
def natV (k : Nat) : V := .int (k : Int)
theorem nat_at {xs : List Nat} {i : Nat} {x : V} (h : (xs.map natV)[i]? = some x) : ∃ a, xs[i]? = some a ∧ x = natV a := by
  rw [List.getElem?_map] at h
  cases e : xs[i]? with
  | none => rw [e] at h; cases h
  | some a => rw [e] at h; exact ⟨a, rfl, (Option.some.inj h).symm⟩
theorem inV_nat {y : Nat} : ∀ {l : List Nat}, inV (natV y) (l.map natV) = decide (y ∈ l)
  | [] => by simp [inV]
  | x :: l => by
    have ih := inV_nat (y := y) (l := l)
    unfold inV at ih ⊢
    rw [List.map_cons, List.any_cons, ih]
    have e0 : eqV (natV x) (natV y) = decide (x = y) := by
      show eqV (.int (x : Int)) (.int (y : Int)) = _
      by_cases e : x = y
      · subst e; simp [eqV]
      · have : ¬ (x : Int) = (y : Int) := by omega
        simp [eqV, e, this]
    rw [e0]
    by_cases e : x = y
    · subst e; simp
    · have e' : ¬ y = x := fun q => e q.symm
      simp [e, e']
theorem flat_nats : ∀ (l : List Nat), (l.map natV).all flatV = true
  | [] => rfl
  | x :: l => by rw [List.map_cons, List.all_cons, flat_nats l]; rfl
abbrev nEnds : List Str := ["_law_pattern_here", "_law_said", "_law_starts", "_law_found", "_law_one", "_law_later", "_law_more", "_law_at", "_law_end"]
/-- [x for x in a if x not in found], found at slot 3; x at slot 7 or 8 -/
theorem fresh7 {K : PySem.W.Frag} {s0 s1 s2 s4 s5 s6 s7 s8 : Option V} {a fr : Addr} {E F : List Nat} {H1 : Hp} {Q : Addr → Hp → Prop} (ha : H1 a = some (.lst (E.map natV))) (hf : H1 fr = some (.lst (F.map natV))) (hl : E.length ≤ 60000)
    (hq : ∀ r H', Same H1 H' → H1 r = none → H' r = some (.lst ((E.filter fun e => decide (e ∉ F)).map natV)) → Q r H') :
    ∀ D, H1 D = none → ∃ W : Nat → Nat → Hp → Prop, (∃ m, W 0 m (upd H1 D (.lst []))) ∧ ∀ i m H, W i m H →
      ((Itl K a).stop i H ∧ Q D H) ∨ ((Itl K a).go i H ∧ ∃ Nx : Hp → Prop, (∀ H', Nx H' → ∃ m', m' < m ∧ W (i + 1) m' H') ∧ ∀ x H', (Itl K a).yld i H x H' → gName 7 x (wipe [s0, s1, s2, some (.ref fr), s4, s5, s6, s7, s8] [7]) H' fun σ2 H2 => wipe σ2 [7] = wipe [s0, s1, s2, some (.ref fr), s4, s5, s6, s7, s8] [7] ∧ tTest (tOp (rIn K true) (tVar 7) (tVar 3)) σ2 H2 fun b H3 =>
        if b = true then tVar 7 σ2 H3 fun y H4 => ∃ acc, H4 D = some (.lst acc) ∧ acc.length < sizeLine ∧ Nx (upd H4 D (.lst (acc ++ [y]))) else Nx H3) := by
  refine fun D hD => lc_list (K := K) (a := a) (xs := E.map natV) (fun i H2 => Same H1 H2 ∧ H2 D = some (.lst (((E.take i).filter fun e => decide (e ∉ F)).map natV)))
      ⟨same_new hD _, upd_same⟩ (fun i H2 _ ⟨s2, _⟩ => SqL.of (s2 _ _ ha)) ?_ ?_
  · rintro i x H2 hx ⟨s2, hD2⟩
    obtain ⟨e, he, rfl⟩ := nat_at hx
    refine ⟨rfl, _, rfl, _, rfl, fr, _, rfl, .inl (SqL.of (s2 _ _ hf)), rfl, flat_nats _, _, rfl, ?_⟩
    rw [inV_nat]
    have et : (E.take (i + 1)).filter (fun e => decide (e ∉ F)) = (E.take i).filter (fun e => decide (e ∉ F)) ++ (if e ∈ F then [] else [e]) := by
      rw [take_snoc he, List.filter_append]
      by_cases c : e ∈ F <;> simp [c]
    refine ite2 (fun c => ?_) (fun c => ?_)
    · have c : ¬ e ∈ F := by simpa using c
      rw [if_neg c] at et
      refine ⟨_, rfl, _, hD2, ?_, same_upd s2 hD _, ?_⟩
      · rw [List.length_map]
        have h1 := List.length_filter_le (fun e => decide (e ∉ F)) (E.take i)
        rw [List.length_take] at h1
        exact smaller (by omega)
      · rw [upd_same, et, List.map_append]; rfl
    · have c : e ∈ F := by simpa using c
      rw [if_pos c, List.append_nil] at et
      exact ⟨s2, by rw [et]; exact hD2⟩
  · rintro H2 ⟨s2, hD2⟩
    rw [List.length_map, List.take_length] at hD2
    exact hq D H2 s2 hD hD2
theorem fresh8 {K : PySem.W.Frag} {s0 s1 s2 s4 s5 s6 s7 s8 : Option V} {a fr : Addr} {E F : List Nat} {H1 : Hp} {Q : Addr → Hp → Prop} (ha : H1 a = some (.lst (E.map natV))) (hf : H1 fr = some (.lst (F.map natV))) (hl : E.length ≤ 60000)
    (hq : ∀ r H', Same H1 H' → H1 r = none → H' r = some (.lst ((E.filter fun e => decide (e ∉ F)).map natV)) → Q r H') :
    ∀ D, H1 D = none → ∃ W : Nat → Nat → Hp → Prop, (∃ m, W 0 m (upd H1 D (.lst []))) ∧ ∀ i m H, W i m H →
      ((Itl K a).stop i H ∧ Q D H) ∨ ((Itl K a).go i H ∧ ∃ Nx : Hp → Prop, (∀ H', Nx H' → ∃ m', m' < m ∧ W (i + 1) m' H') ∧ ∀ x H', (Itl K a).yld i H x H' → gName 8 x (wipe [s0, s1, s2, some (.ref fr), s4, s5, s6, s7, s8] [8]) H' fun σ2 H2 => wipe σ2 [8] = wipe [s0, s1, s2, some (.ref fr), s4, s5, s6, s7, s8] [8] ∧ tTest (tOp (rIn K true) (tVar 8) (tVar 3)) σ2 H2 fun b H3 =>
        if b = true then tVar 8 σ2 H3 fun y H4 => ∃ acc, H4 D = some (.lst acc) ∧ acc.length < sizeLine ∧ Nx (upd H4 D (.lst (acc ++ [y]))) else Nx H3) := by
  refine fun D hD => lc_list (K := K) (a := a) (xs := E.map natV) (fun i H2 => Same H1 H2 ∧ H2 D = some (.lst (((E.take i).filter fun e => decide (e ∉ F)).map natV)))
      ⟨same_new hD _, upd_same⟩ (fun i H2 _ ⟨s2, _⟩ => SqL.of (s2 _ _ ha)) ?_ ?_
  · rintro i x H2 hx ⟨s2, hD2⟩
    obtain ⟨e, he, rfl⟩ := nat_at hx
    refine ⟨rfl, _, rfl, _, rfl, fr, _, rfl, .inl (SqL.of (s2 _ _ hf)), rfl, flat_nats _, _, rfl, ?_⟩
    rw [inV_nat]
    have et : (E.take (i + 1)).filter (fun e => decide (e ∉ F)) = (E.take i).filter (fun e => decide (e ∉ F)) ++ (if e ∈ F then [] else [e]) := by
      rw [take_snoc he, List.filter_append]
      by_cases c : e ∈ F <;> simp [c]
    refine ite2 (fun c => ?_) (fun c => ?_)
    · have c : ¬ e ∈ F := by simpa using c
      rw [if_neg c] at et
      refine ⟨_, rfl, _, hD2, ?_, same_upd s2 hD _, ?_⟩
      · rw [List.length_map]
        have h1 := List.length_filter_le (fun e => decide (e ∉ F)) (E.take i)
        rw [List.length_take] at h1
        exact smaller (by omega)
      · rw [upd_same, et, List.map_append]; rfl
    · have c : e ∈ F := by simpa using c
      rw [if_pos c, List.append_nil] at et
      exact ⟨s2, by rw [et]; exact hD2⟩
  · rintro H2 ⟨s2, hD2⟩
    rw [List.length_map, List.take_length] at hD2
    exact hq D H2 s2 hD hD2
section
variable {P : Program} {w : World} {K : PySem.W.Frag} {mg : Str → Option Value} {base : Heap} {C : Kd → Addr} {n : Nat} {f : Addr} {fd : FuncData}
def spEnds (n : Nat) : Sp := fun vs H Q _ => ∃ (v : V) (p : P0) (ls lt : Addr) (ws : List Str) (S : List Nat), vs = [v, .ref ls, .ref lt] ∧ PatAt H v p ∧ Fat n p ∧ H ls = some (.lst (ws.map V.str)) ∧ ws.length ≤ 20000 ∧ H lt = some (.lst (S.map natV)) ∧ Places ws S ∧
  ∀ (r : Addr) (H' : Hp) (E : List Nat), Same H H' → H r = none → H' r = some (.lst (E.map natV)) → Ends p ws S E → Q (.ref r) H'
theorem scEnds : FnScope nEnds ["_law_pattern_here", "_law_said", "_law_starts"] (defScope sEnds) := ⟨rfl, rfl, rfl, by decide +kernel, rfl, by decide +kernel, by decide +kernel⟩
theorem ok_Ends (F : Fun K "_law_ends" "_law_ends" sEnds f fd) (T : Txt K mg C) (G : FnOk P w K mg base CX0 n f fd ["_law_pattern_here", "_law_said", "_law_starts"] (spEnds n)) (mF : mg "_law_ends" = some (.ref f)) (bF : Binds K fd ["_law_pattern_here", "_law_said", "_law_starts"] []) :
    FnOk P w K mg base CX0 (n + 1) f fd ["_law_pattern_here", "_law_said", "_law_starts"] (spEnds (n + 1)) := by
  refine F.ok scEnds (fun vs H Q E h => ?_) (fun cdv A outer s H vs Q E hr h => ?_)
  · obtain ⟨v, p, ls, lt, ws, S, rfl, _⟩ := h
    rfl
  obtain ⟨v, p, ls, lt, ws, S, rfl, pa, fat, hls, hlw, hlt, hS, q⟩ := h
  have hu := room_u hr
  refine ⟨_, (pss_cons (ps_if (PT_imp (pt_cmpR op_eq (pe_ix ix_tup (pv 0) pe_int (fun _ _ => rfl)) pe_str (nomark _)) tag_imp)
      (pss_one (ps_ret (pe_callTy call_list_of (by rfl) T.list (by decide +kernel) (pa_cons (pv 2) pa_nil))))
      pss_nil)
      (pss_cons (ps_if (PT_imp (pt_cmpR op_eq (pe_ix ix_tup (pv 0) pe_int (fun _ _ => rfl)) pe_str (nomark _)) tag_imp)
      (pss_one (ps_ret (pe_lc (own := [("_law_at", 7)]) (g := gName 7) (tt := tTest (tOp (fun x y H Q => ∃ a b xs z, x = V.ref a ∧ y = V.ref b ∧ SqL K H a (xs.map V.str) ∧ SqL K H b [V.str z] ∧ Q (.bl (decide (xs = [z]))) H) (tSl (rSlL K) (tVar 1) (tPart (tVar 7)) (tPart (tOp (rI0 fun i j => .int (i + j)) (tVar 7) (tC (.int 1))))) (tLst (tCons (tOp (rIxT K) (tVar 0) (tC (.int 1))) tNil)))) (te := tOp (rI0 fun i j => .int (i + j)) (tVar 7) (tC (.int 1))) rfl scEnds.nd (pi_list (pv 2)) (blkOk_by (own := [("_law_at", 7)]) (N := nEnds) (sc := defScope sEnds) (by decide +kernel)) (fun _ _ _ _ _ => pg_name (i := 7) scEnds.nd rfl (Or.inl rfl)) (fun _ _ _ _ _ => pts_one (pt_cmpR (op_eq1 hu) (pe_slice sl_list (pv 1) (po_some (pv 7)) (po_some (pe_op op_add (pv 7) pe_int))) (pe_lst (pa_cons (pe_ix ix_tup (pv 0) pe_int (fun _ _ => rfl)) pa_nil)) (nomark _))) (fun _ _ _ _ _ => pe_op op_add (pv 7) pe_int))))
      pss_nil)
      (pss_cons (ps_if (PT_imp (pt_cmpR op_eq (pe_ix ix_tup (pv 0) pe_int (fun _ _ => rfl)) pe_str (nomark _)) tag_imp)
      (pss_cons (ps_set (i := 3) scEnds.nd rfl (Or.inr rfl) (pe_lst pa_nil))
      (pss_cons (ps_for PassesOwn.never rfl (pi_list (pe_ix ix_tup (pv 0) pe_int (fun _ _ => rfl))) (pg_name (i := 4) scEnds.nd rfl (Or.inl rfl)) (pss_one (ps_set (i := 3) scEnds.nd rfl (Or.inr rfl) (pe_op op_cat (pv 3) (pe_lc (own := [("_law_end", 8)]) (g := gName 8) (tt := tTest (tOp (rIn K true) (tVar 8) (tVar 3))) (te := tVar 8) rfl scEnds.nd (pi_list (pe_call G hr rfl mF F.kp bF .nil pass0 (pa_cons (pv 4) (pa_cons (pv 1) (pa_cons (pv 2) pa_nil))))) (blkOk_by (own := [("_law_end", 8)]) (N := nEnds) (sc := defScope sEnds) (by decide +kernel)) (fun _ _ _ _ _ => pg_name (i := 8) scEnds.nd rfl (Or.inl rfl)) (fun _ _ _ _ _ => pts_one (pt_cmpR op_notIn_seq (pv 8) (pv 3) (by rfl))) (fun _ _ _ _ _ => pv 8))))))
      (pss_one (ps_ret (pv 3)))))
      pss_nil)
      (pss_cons (ps_if (PT_imp (pt_cmpR op_eq (pe_ix ix_tup (pv 0) pe_int (fun _ _ => rfl)) pe_str (nomark _)) tag_imp)
      (pss_cons (ps_set (i := 3) scEnds.nd rfl (Or.inr rfl) (pe_callTy call_list_of (by rfl) T.list (by decide +kernel) (pa_cons (pv 2) pa_nil)))
      (pss_cons (ps_for PassesOwn.never rfl (pi_list (pe_ix ix_tup (pv 0) pe_int (fun _ _ => rfl))) (pg_name (i := 4) scEnds.nd rfl (Or.inl rfl)) (pss_one (ps_set (i := 3) scEnds.nd rfl (Or.inr rfl) (pe_call G hr rfl mF F.kp bF .nil pass0 (pa_cons (pv 4) (pa_cons (pv 1) (pa_cons (pv 3) pa_nil)))))))
      (pss_one (ps_ret (pv 3)))))
      pss_nil)
      (pss_cons (ps_set (i := 3) scEnds.nd rfl (Or.inr rfl) (pe_call G hr rfl mF F.kp bF .nil pass0 (pa_cons (pe_ix ix_tup (pv 0) pe_int (fun _ _ => rfl)) (pa_cons (pv 1) (pa_cons (pv 2) pa_nil)))))
      (pss_cons (ps_if (PT_imp (pt_cmpR op_eq (pe_ix ix_tup (pv 0) pe_int (fun _ _ => rfl)) pe_str (nomark _)) tag_imp)
      (pss_one (ps_ret (pe_op op_cat (pv 3) (pe_lc (own := [("_law_at", 7)]) (g := gName 7) (tt := tTest (tOp (rIn K true) (tVar 7) (tVar 3))) (te := tVar 7) rfl scEnds.nd (pi_list (pv 2)) (blkOk_by (own := [("_law_at", 7)]) (N := nEnds) (sc := defScope sEnds) (by decide +kernel)) (fun _ _ _ _ _ => pg_name (i := 7) scEnds.nd rfl (Or.inl rfl)) (fun _ _ _ _ _ => pts_one (pt_cmpR op_notIn_seq (pv 7) (pv 3) (by rfl))) (fun _ _ _ _ _ => pv 7)))))
      pss_nil)
      (pss_cons (ps_if (PT_imp (pt_cmpR op_eq (pe_ix ix_tup (pv 0) pe_int (fun _ _ => rfl)) pe_str (nomark _)) tag_imp)
      (pss_one (ps_set (i := 3) scEnds.nd rfl (Or.inr rfl) (pe_op op_cat (pv 3) (pe_lc (own := [("_law_at", 7)]) (g := gName 7) (tt := tTest (tOp (rIn K true) (tVar 7) (tVar 3))) (te := tVar 7) rfl scEnds.nd (pi_list (pv 2)) (blkOk_by (own := [("_law_at", 7)]) (N := nEnds) (sc := defScope sEnds) (by decide +kernel)) (fun _ _ _ _ _ => pg_name (i := 7) scEnds.nd rfl (Or.inl rfl)) (fun _ _ _ _ _ => pts_one (pt_cmpR op_notIn_seq (pv 7) (pv 3) (by rfl))) (fun _ _ _ _ _ => pv 7)))))
      pss_nil)
      (pss_cons (ps_set (i := 5) scEnds.nd rfl (Or.inl rfl) (pv 3))
      (pss_cons (ps_while PassesOwn.never (pt_cmpR (op_neE hu) (pv 5) (pe_lst pa_nil) (nomark _))
      (pss_cons (ps_set (i := 6) scEnds.nd rfl (Or.inl rfl) (pe_call G hr rfl mF F.kp bF .nil pass0 (pa_cons (pe_ix ix_tup (pv 0) pe_int (fun _ _ => rfl)) (pa_cons (pv 1) (pa_cons (pv 5) pa_nil)))))
      (pss_cons (ps_setLc (i := 5) (own := [("_law_end", 8)]) (g := gName 8) (tt := tTest (tOp (rIn K true) (tVar 8) (tVar 3))) (te := tVar 8) rfl scEnds.nd rfl rfl (sw_true rfl rfl rfl (by decide +kernel)) (pi_list (pv 6)) (blkOk_by (own := [("_law_end", 8)]) (N := nEnds) (sc := defScope sEnds) (by decide +kernel)) (fun _ _ _ _ _ => pg_name (i := 8) scEnds.nd rfl (Or.inl rfl)) (fun _ _ _ _ _ => pts_one (pt_cmpR op_notIn_seq (pv 8) (pv 3) (by rfl))) (fun _ _ _ _ _ => pv 8))
      (pss_one (ps_set (i := 3) scEnds.nd rfl (Or.inr rfl) (pe_op op_cat (pv 3) (pv 5)))))))
      (pss_one (ps_ret (pv 3)))))))))))), ?_⟩
  have lS := hS.len
  cases pa with
  | @none a ha =>
    refine ⟨a, _, _, rfl, ha, tagT ⟨_, rfl, lt, _, rfl, .inl (SqL.of hlt), fun r nr => ?_⟩⟩
    exact q r _ S (same_new nr _) nr upd_same (ends_none hS)
  | @one a x ha =>
    refine ⟨a, _, _, rfl, ha, tagF (by decide +kernel) ⟨a, _, _, rfl, ha, tagT ?_⟩⟩
    refine ⟨_, rfl, lt, rfl, ⟨_, SqL.of hlt⟩, fun D hD => lc_list (K := K) (a := lt) (xs := S.map natV) (fun i H2 => Same H H2 ∧ H2 D = some (.lst ((((S.take i).filter fun s => decide ((ws.drop s).take 1 = [x])).map (· + 1)).map natV)))
        ⟨same_new hD _, upd_same⟩ (fun i H2 _ ⟨s2, _⟩ => SqL.of (s2 _ _ hlt)) ?_ ?_⟩
    · rintro i y H2 hx ⟨s2, hD2⟩
      obtain ⟨e, he, rfl⟩ := nat_at hx
      refine ⟨rfl, _, rfl, _, rfl, _, rfl, _, rfl, _, _, rfl, rfl, _, rfl, ls, _, rfl, SqL.of (s2 _ _ hls), fun p1 n1 => ?_⟩
      have s3 := same_new n1 (.lst (cutV (ws.map V.str) (some (e : Int)) (some ((e : Int) + 1))))
      refine ⟨_, rfl, a, _, _, .str x, rfl, rfl, SqT.of (s3 _ _ (s2 _ _ ha)), at1, small (by show (1:Nat) ≤ 100000; decide), fun p2 n2 => ?_⟩
      have s4 := same_new n2 (.lst [.str x])
      have ec : cutV (ws.map V.str) (some (e : Int)) (some ((e : Int) + 1)) = ((ws.drop e).take 1).map V.str := by
        have := cut_mid (xs := ws.map V.str) (k := e) (j := e + 1)
        rw [List.map_take, List.map_drop]
        have e1 : e + 1 - e = 1 := by omega
        rw [e1] at this
        exact this
      have h1 : upd (upd H2 p1 (.lst (cutV (ws.map V.str) (some (e : Int)) (some ((e : Int) + 1))))) p2 (.lst [.str x]) p1 = some (.lst (((ws.drop e).take 1).map V.str)) := s4 _ _ (by rw [upd_same, ec])
      refine ⟨p1, p2, (ws.drop e).take 1, x, rfl, rfl, SqL.of h1, SqL.of upd_same, _, rfl, ?_⟩
      have s5 := (s2.trans s3).trans s4
      have et : (S.take (i + 1)).filter (fun s => decide ((ws.drop s).take 1 = [x])) = (S.take i).filter (fun s => decide ((ws.drop s).take 1 = [x])) ++ (if (ws.drop e).take 1 = [x] then [e] else []) := by
        rw [take_snoc he, List.filter_append]
        by_cases c : (ws.drop e).take 1 = [x] <;> simp [c]
      have hD5 := (s3.trans s4) _ _ hD2
      refine ite2 (fun c => ?_) (fun c => ?_)
      · have c : (ws.drop e).take 1 = [x] := of_decide_eq_true c
        rw [if_pos c] at et
        refine ⟨_, rfl, _, _, rfl, rfl, _, hD5, ?_, same_upd s5 hD _, ?_⟩
        · rw [List.length_map, List.length_map]
          have h1 := List.length_filter_le (fun s => decide ((ws.drop s).take 1 = [x])) (S.take i)
          rw [List.length_take] at h1
          exact smaller (by omega)
        · rw [upd_same, et, List.map_append, List.map_append]; rfl
      · have c : ¬ (ws.drop e).take 1 = [x] := fun z => c (decide_eq_true z)
        rw [if_neg c, List.append_nil] at et
        exact ⟨s5, by rw [et]; exact hD5⟩
    · rintro H2 ⟨s2, hD2⟩
      rw [List.length_map, List.take_length] at hD2
      exact q D H2 _ s2 hD hD2 (ends_one hS)
  | @any a l vs ps ha hl hps =>
    refine ⟨a, _, _, rfl, ha, tagF (by decide +kernel) ⟨a, _, _, rfl, ha, tagF (by decide +kernel) ⟨a, _, _, rfl, ha, tagT ?_⟩⟩⟩
    refine ⟨small (by show (0:Nat) ≤ 100000; decide), fun r0 n0 => ?_⟩
    have s0 := same_new n0 (.lst [])
    refine ⟨_, rfl, a, _, _, .ref l, rfl, rfl, SqT.of (s0 _ _ ha), at1, l, rfl, ⟨_, SqL.of (s0 _ _ hl)⟩,
      for_list (K := K) (a := l) (xs := vs) (fun i σ H2 => ∃ r2 v4 F, σ = [some (.ref a), some (.ref ls), some (.ref lt), some (.ref r2), v4, none, none, none, none] ∧ Same H H2 ∧ H r2 = none ∧ H2 r2 = some (.lst (F.map natV)) ∧ EndsA (ps.take i) ws S F)
        ⟨r0, none, [], rfl, s0, n0, upd_same, endsA_nil⟩ (fun i σ H2 _ ⟨_, _, _, _, s2, _⟩ => SqL.of (s2 _ _ hl)) ?_ ?_⟩
    · rintro i x σ H2 hx ⟨r2, v4, F, rfl, s2, n2, f2, EA⟩
      obtain ⟨p0, hp0, pu⟩ := hps.at_ hx
      have hm := List.mem_of_getElem? hp0
      have pF : Places ws F := (ends_any EA).places
      refine ⟨_, rfl, _, rfl, _, rfl, _, rfl, x, p0, ls, lt, ws, S, rfl, pu.mono s2, fat.kid hm, s2 _ _ hls, hlw, s2 _ _ hlt, hS, fun r3 H3 E3 s3 n3 e3 en => ?_⟩
      have l3 := en.places.len
      have lF := pF.len
      refine ⟨r3, rfl, ⟨_, SqL.of e3⟩, fresh8 (K := K) e3 (s3 _ _ f2) (by omega) fun r4 H4 s4 n4 e4 => ?_⟩
      refine ⟨r2, r4, _, _, rfl, rfl, s4 _ _ (s3 _ _ f2), e4, ?_, fun r5 n5 => ?_⟩
      · rw [List.length_map, List.length_map]
        have := List.length_filter_le (fun e => decide (e ∉ F)) E3
        exact small (by omega)
      have s25 := (s2.trans s3).trans s4
      refine ⟨r5, _, more F E3, rfl, s25.trans (same_new n5 _), s25.free n5, ?_, ?_⟩
      · rw [upd_same, ← List.map_append]; rfl
      · rw [take_snoc hp0]; exact endsA_snoc EA en
    · rintro σ H2 ⟨r2, v4, F, rfl, s2, n2, f2, EA⟩
      rw [List.take_of_length_le (by rw [hps.len]; exact Nat.le_refl _)] at EA
      exact ⟨_, rfl, q r2 H2 F s2 n2 f2 (ends_any EA)⟩
  | @row a l vs ps ha hl hps =>
    refine ⟨a, _, _, rfl, ha, tagF (by decide +kernel) ⟨a, _, _, rfl, ha, tagF (by decide +kernel) ⟨a, _, _, rfl, ha, tagF (by decide +kernel) ⟨a, _, _, rfl, ha, tagT ?_⟩⟩⟩⟩
    refine ⟨_, rfl, lt, _, rfl, .inl (SqL.of hlt), fun r0 n0 => ?_⟩
    have s0 := same_new n0 (.lst (S.map natV))
    refine ⟨_, rfl, a, _, _, .ref l, rfl, rfl, SqT.of (s0 _ _ ha), at1, l, rfl, ⟨_, SqL.of (s0 _ _ hl)⟩,
      for_list (K := K) (a := l) (xs := vs) (fun i σ H2 => ∃ r2 v4 F, σ = [some (.ref a), some (.ref ls), some (.ref lt), some (.ref r2), v4, none, none, none, none] ∧ Same H H2 ∧ H r2 = none ∧ H2 r2 = some (.lst (F.map natV)) ∧ EndsR (ps.take i) ws S F)
        ⟨r0, none, S, rfl, s0, n0, upd_same, endsR_nil hS⟩ (fun i σ H2 _ ⟨_, _, _, _, s2, _⟩ => SqL.of (s2 _ _ hl)) ?_ ?_⟩
    · rintro i x σ H2 hx ⟨r2, v4, F, rfl, s2, n2, f2, ER⟩
      obtain ⟨p0, hp0, pu⟩ := hps.at_ hx
      have hm := List.mem_of_getElem? hp0
      refine ⟨_, rfl, _, rfl, _, rfl, x, p0, ls, r2, ws, F, rfl, pu.mono s2, fat.kid hm, s2 _ _ hls, hlw, f2, ER.places, fun r3 H3 E3 s3 n3 e3 en => ?_⟩
      refine ⟨r3, _, E3, rfl, s2.trans s3, s2.free n3, e3, ?_⟩
      rw [take_snoc hp0]; exact endsR_snoc ER en
    · rintro σ H2 ⟨r2, v4, F, rfl, s2, n2, f2, ER⟩
      rw [List.take_of_length_le (by rw [hps.len]; exact Nat.le_refl _)] at ER
      exact ⟨_, rfl, q r2 H2 F s2 n2 f2 (ends_row ER)⟩
  | @maybe a u p0 ha hp0 =>
    refine ⟨a, _, _, rfl, ha, tagF (by decide +kernel) ⟨a, _, _, rfl, ha, tagF (by decide +kernel) ⟨a, _, _, rfl, ha, tagF (by decide +kernel) ⟨a, _, _, rfl, ha, tagF (by decide +kernel) ?_⟩⟩⟩⟩
    refine ⟨_, rfl, a, _, _, u, rfl, rfl, SqT.of ha, at1, _, rfl, _, rfl, u, p0, ls, lt, ws, S, rfl, hp0, fat.kid (List.mem_singleton.mpr rfl), hls, hlw, hlt, hS, fun r1 H1 E1 s1 n1 e1 en => ?_⟩
    have l1 := en.places.len
    refine ⟨a, _, _, rfl, s1 _ _ ha, tagT ?_⟩
    refine ⟨_, rfl, _, rfl, lt, rfl, ⟨_, SqL.of (s1 _ _ hlt)⟩, fresh7 (K := K) (s1 _ _ hlt) e1 (by omega) fun r4 H4 s4 n4 e4 => ?_⟩
    refine ⟨r1, r4, _, _, rfl, rfl, s4 _ _ e1, e4, ?_, fun r5 n5 => ?_⟩
    · rw [List.length_map, List.length_map]
      have := List.length_filter_le (fun e => decide (e ∉ E1)) S
      exact small (by omega)
    have s14 := s1.trans s4
    refine q r5 _ (more E1 S) (s14.trans (same_new n5 _)) (s14.free n5) ?_ (ends_maybe hS en)
    rw [upd_same, ← List.map_append]; rfl
  | @many a u p0 ha hp0 =>
    refine ⟨a, _, _, rfl, ha, tagF (by decide +kernel) ⟨a, _, _, rfl, ha, tagF (by decide +kernel) ⟨a, _, _, rfl, ha, tagF (by decide +kernel) ⟨a, _, _, rfl, ha, tagF (by decide +kernel) ?_⟩⟩⟩⟩
    refine ⟨_, rfl, a, _, _, u, rfl, rfl, SqT.of ha, at1, _, rfl, _, rfl, u, p0, ls, lt, ws, S, rfl, hp0, fat.kid (List.mem_singleton.mpr rfl), hls, hlw, hlt, hS, fun r1 H1 E1 s1 n1 e1 en => ?_⟩
    have l1 := en.places.len
    refine ⟨a, _, _, rfl, s1 _ _ ha, tagF (by decide +kernel) ⟨a, _, _, rfl, s1 _ _ ha, tagT ?_⟩⟩
    refine ⟨_, rfl, _, rfl, lt, rfl, ⟨_, SqL.of (s1 _ _ hlt)⟩, fresh7 (K := K) (s1 _ _ hlt) e1 (by omega) fun r4 H4 s4 n4 e4 => ?_⟩
    refine ⟨r1, r4, _, _, rfl, rfl, s4 _ _ e1, e4, ?_, fun r5 n5 => ?_⟩
    · rw [List.length_map, List.length_map]
      have := List.length_filter_le (fun e => decide (e ∉ E1)) S
      exact small (by omega)
    have s14 := s1.trans s4
    have s15 := s14.trans (same_new n5 (.lst (E1.map natV ++ (S.filter fun e => decide (e ∉ E1)).map natV)))
    have e5 : upd H4 r5 (.lst (E1.map natV ++ (S.filter fun e => decide (e ∉ E1)).map natV)) r5 = some (.lst ((more E1 S).map natV)) := by rw [upd_same, ← List.map_append]; rfl
    refine ⟨_, rfl, ?_⟩
    refine ⟨fun m σ H2 => ∃ fr lr v6 F L, σ = [some (.ref a), some (.ref ls), some (.ref lt), some (.ref fr), none, some (.ref lr), v6, none, none] ∧ Same H H2 ∧ H fr = none ∧ H2 fr = some (.lst (F.map natV)) ∧ H2 lr = some (.lst (L.map natV)) ∧ Seek p0 ws S F L ∧ m = 2 * (ws.length + 1 - F.length) + (if L = [] then 0 else 1),
      ⟨_, r5, r5, none, _, _, rfl, s15, s14.free n5, e5, e5, Seek.start' hS en, rfl⟩, ?_⟩
    rintro m σ H2 ⟨fr, lr, v6, F, L, rfl, s2, n2, f2, g2, sk, rfl⟩
    refine ⟨_, rfl, small (by show (0:Nat) ≤ 100000; decide), fun r9 n9 => ?_⟩
    have s9 := same_new n9 (.lst [])
    refine ⟨lr, r9, _, rfl, rfl, SqL.of (s9 _ _ g2), SqL.of upd_same, _, rfl, ?_⟩
    have lF := sk.pl.len
    cases L with
    | nil => exact iteF ⟨_, rfl, q fr _ F (s2.trans s9) n2 (s9 _ _ f2) (ends_many hS sk)⟩
    | cons z L0 =>
      refine iteT ⟨_, fun σ' H' h => h, ?_⟩
      have s29 := s2.trans s9
      have pL : Places ws (z :: L0) := ⟨sk.nd, fun s hs => sk.pl.2 s (sk.sub s hs)⟩
      refine ⟨_, rfl, a, _, _, u, rfl, rfl, SqT.of (s29 _ _ ha), at1, _, rfl, _, rfl, u, p0, ls, lr, ws, z :: L0, rfl, hp0.mono s29, fat.kid (List.mem_singleton.mpr rfl), s29 _ _ hls, hlw, s9 _ _ g2, pL, fun r3 H3 E3 s3 n3 e3 en3 => ?_⟩
      have l3 := en3.places.len
      refine ⟨_, rfl, r3, rfl, ⟨_, SqL.of e3⟩, fresh8 (K := K) e3 (s3 _ _ (s9 _ _ f2)) (by omega) fun r4 H4 s4 n4 e4 => ?_⟩
      refine ⟨_, rfl, _, rfl, fr, r4, _, _, rfl, rfl, s4 _ _ (s3 _ _ (s9 _ _ f2)), e4, ?_, fun r5 n5 => ?_⟩
      · rw [List.length_map, List.length_map]
        have := List.length_filter_le (fun e => decide (e ∉ F)) E3
        exact small (by omega)
      have s24 := (s29.trans s3).trans s4
      have sk2 := sk.turn en3
      have lM := sk2.pl.len
      have eM : (more F E3).length = F.length + (E3.filter fun e => decide (e ∉ F)).length := by unfold more; rw [List.length_append]
      refine ⟨2 * (ws.length + 1 - (more F E3).length) + (if (E3.filter fun e => decide (e ∉ F)) = [] then 0 else 1), ?_, r5, r4, _, more F E3, E3.filter fun e => decide (e ∉ F), rfl, s24.trans (same_new n5 _), s24.free n5, ?_, (same_new n5 _) _ _ e4, sk2, rfl⟩
      · rw [if_neg (show ¬ (z :: L0) = [] by simp)]
        by_cases hE : (E3.filter fun e => decide (e ∉ F)) = []
        · rw [if_pos hE, eM, hE, List.length_nil]; omega
        · rw [if_neg hE]
          have : 0 < (E3.filter fun e => decide (e ∉ F)).length := List.length_pos_iff.mpr hE
          omega
      · rw [upd_same, ← List.map_append]; rfl
  | @some a u p0 ha hp0 =>
    refine ⟨a, _, _, rfl, ha, tagF (by decide +kernel) ⟨a, _, _, rfl, ha, tagF (by decide +kernel) ⟨a, _, _, rfl, ha, tagF (by decide +kernel) ⟨a, _, _, rfl, ha, tagF (by decide +kernel) ?_⟩⟩⟩⟩
    refine ⟨_, rfl, a, _, _, u, rfl, rfl, SqT.of ha, at1, _, rfl, _, rfl, u, p0, ls, lt, ws, S, rfl, hp0, fat.kid (List.mem_singleton.mpr rfl), hls, hlw, hlt, hS, fun r1 H1 E1 s1 n1 e1 en => ?_⟩
    have l1 := en.places.len
    refine ⟨a, _, _, rfl, s1 _ _ ha, tagF (by decide +kernel) ⟨a, _, _, rfl, s1 _ _ ha, tagF (by decide +kernel) ?_⟩⟩
    refine ⟨_, rfl, ?_⟩
    refine ⟨fun m σ H2 => ∃ fr lr v6 F L, σ = [some (.ref a), some (.ref ls), some (.ref lt), some (.ref fr), none, some (.ref lr), v6, none, none] ∧ Same H H2 ∧ H fr = none ∧ H2 fr = some (.lst (F.map natV)) ∧ H2 lr = some (.lst (L.map natV)) ∧ Seek p0 ws E1 F L ∧ m = 2 * (ws.length + 1 - F.length) + (if L = [] then 0 else 1),
      ⟨_, r1, r1, none, _, _, rfl, s1, n1, e1, e1, Seek.start en.places, rfl⟩, ?_⟩
    rintro m σ H2 ⟨fr, lr, v6, F, L, rfl, s2, n2, f2, g2, sk, rfl⟩
    refine ⟨_, rfl, small (by show (0:Nat) ≤ 100000; decide), fun r9 n9 => ?_⟩
    have s9 := same_new n9 (.lst [])
    refine ⟨lr, r9, _, rfl, rfl, SqL.of (s9 _ _ g2), SqL.of upd_same, _, rfl, ?_⟩
    have lF := sk.pl.len
    cases L with
    | nil => exact iteF ⟨_, rfl, q fr _ F (s2.trans s9) n2 (s9 _ _ f2) (ends_some en sk)⟩
    | cons z L0 =>
      refine iteT ⟨_, fun σ' H' h => h, ?_⟩
      have s29 := s2.trans s9
      have pL : Places ws (z :: L0) := ⟨sk.nd, fun s hs => sk.pl.2 s (sk.sub s hs)⟩
      refine ⟨_, rfl, a, _, _, u, rfl, rfl, SqT.of (s29 _ _ ha), at1, _, rfl, _, rfl, u, p0, ls, lr, ws, z :: L0, rfl, hp0.mono s29, fat.kid (List.mem_singleton.mpr rfl), s29 _ _ hls, hlw, s9 _ _ g2, pL, fun r3 H3 E3 s3 n3 e3 en3 => ?_⟩
      have l3 := en3.places.len
      refine ⟨_, rfl, r3, rfl, ⟨_, SqL.of e3⟩, fresh8 (K := K) e3 (s3 _ _ (s9 _ _ f2)) (by omega) fun r4 H4 s4 n4 e4 => ?_⟩
      refine ⟨_, rfl, _, rfl, fr, r4, _, _, rfl, rfl, s4 _ _ (s3 _ _ (s9 _ _ f2)), e4, ?_, fun r5 n5 => ?_⟩
      · rw [List.length_map, List.length_map]
        have := List.length_filter_le (fun e => decide (e ∉ F)) E3
        exact small (by omega)
      have s24 := (s29.trans s3).trans s4
      have sk2 := sk.turn en3
      have lM := sk2.pl.len
      have eM : (more F E3).length = F.length + (E3.filter fun e => decide (e ∉ F)).length := by unfold more; rw [List.length_append]
      refine ⟨2 * (ws.length + 1 - (more F E3).length) + (if (E3.filter fun e => decide (e ∉ F)) = [] then 0 else 1), ?_, r5, r4, _, more F E3, E3.filter fun e => decide (e ∉ F), rfl, s24.trans (same_new n5 _), s24.free n5, ?_, (same_new n5 _) _ _ e4, sk2, rfl⟩
      · rw [if_neg (show ¬ (z :: L0) = [] by simp)]
        by_cases hE : (E3.filter fun e => decide (e ∉ F)) = []
        · rw [if_pos hE, eM, hE, List.length_nil]; omega
        · rw [if_neg hE]
          have : 0 < (E3.filter fun e => decide (e ∉ F)).length := List.length_pos_iff.mpr hE
          omega
      · rw [upd_same, ← List.map_append]; rfl
theorem all_Ends (F : Fun K "_law_ends" "_law_ends" sEnds f fd) (T : Txt K mg C) (mF : mg "_law_ends" = some (.ref f)) (bF : Binds K fd ["_law_pattern_here", "_law_said", "_law_starts"] []) :
    ∀ n, FnOk P w K mg base CX0 n f fd ["_law_pattern_here", "_law_said", "_law_starts"] (spEnds n)
  | 0 => none_self fun vs H Q E h => by obtain ⟨v, p, ls, lt, ws, S, _, _, fat, _⟩ := h; exact Nat.not_lt_zero _ fat.1
  | n + 1 => ok_Ends F T (all_Ends F T mF bF n) mF bF
end
end FW

end
section
namespace FW
open PySem L2 FF
theorem era_fresh {H : Hp} {f : Addr} (n : H f = none) (o : HO) : Same H (era (upd H f o) [f]) := fun b u h => by
  have hb : b ≠ f := ne_of_none h n
  rw [era_out (by simp [hb]), upd_ne hb]; exact h
theorem same_of_era {H H1 : Hp} {l : List Addr} (s : Same H (era H1 l)) : Same H H1 := s.trans (era_same _ _)
theorem str_ix {xs : List Str} {k : Nat} (h : k < xs.length) : ∃ z, xs[k]? = some z ∧ atI (xs.map V.str) (k : Int) = some (.str z) := by
  refine ⟨xs[k], List.getElem?_eq_getElem h, atI_nat (j := k) ?_⟩
  rw [List.getElem?_map, List.getElem?_eq_getElem h]; rfl
theorem seven_nodup : seven.Nodup := by decide +kernel
/-- one of the three edits -/
def tEdit (k : Int) : TS := fun D σ H => ∃ r kk sg, ∃ (at' : Nat) (l : List Str), σ[6]? = some (some (.ref r)) ∧ σ[5]? = some (some (.int kk)) ∧ σ[7]? = some (some (.int at')) ∧ σ[8]? = some (some (.str sg)) ∧ H r = some (.lst (l.map V.str)) ∧ l.length ≤ 2000 ∧
  ∀ (r' : Addr) (l' : List Str) H', Same H H' → H' r' = some (.lst (l'.map V.str)) → l'.length ≤ l.length + 1 → (kk ≠ k → l' = l) → D.nx (σ.set 6 (some (.ref r'))) H'
section
variable {P : Program} {w : World} {K : PySem.W.Frag} {mg : Str → Option Value} {base : Heap} {C : Kd → Addr} {f : Addr} {fd : FuncData}
abbrev nDrawn : List Str := ["_law_script", "_law_numbers", "_law_names", "_law_pattern_here", "_law_feed", "_law_kind", "_law_said", "_law_at", "_law_sign", "_law_number"]
def Good (p : P0) : Prop := depth p ≤ 20 ∧ Fair p ∧ (signs p).Nodup ∧ (signs p).length ≤ 7
theorem Good.fat {p : P0} (g : Good p) : Fat 25 p := ⟨Nat.lt_of_le_of_lt g.1 (by decide), g.2.1⟩
theorem Good.fit {p : P0} (g : Good p) : Fit 25 p := ⟨Nat.lt_of_le_of_lt g.1 (by decide), g.2.1, Nat.le_trans g.2.2.2 (by decide)⟩
def spDrawn (K : PySem.W.Frag) : Sp := fun vs H Q _ => ∃ (a : Addr) (ns : List Int), vs = [.ref a] ∧ SqL K H a (ns.map V.int) ∧ ns.length ≤ 63 ∧
  ∀ (t ls : Addr) (v : V) (p : P0) (ws : List Str) (H' : Hp), Same H H' → H' t = some (.tup [v, .ref ls]) → PatAt H' v p → Good p → H' ls = some (.lst (ws.map V.str)) → ws.length ≤ 10000 → (ns.getD 1 0 % 6 ≤ 1 → Lang p ws) → Q (.ref t) H'
theorem scDrawn : FnScope nDrawn ["_law_script"] (defScope sDrawn) := ⟨rfl, rfl, rfl, by decide +kernel, rfl, by decide +kernel, by decide +kernel⟩
structure Use (K : PySem.W.Frag) (mg : Str → Option Value) (x : Str) (ps : List Str) (f : Addr) (fd : FuncData) : Prop where
  m : mg x = some (.ref f)
  k : PySem.W.keepIn K (.ref f) = true
  b : Binds K fd ps []
theorem ok_Drawn {fD fS fM fC fP fG : Addr} {dD dS dM dC dP dG : FuncData} (F : Fun K "_law_drawn" "_law_drawn" sDrawn f fd) (T : Txt K mg C)
    (GD : FnOk P w K mg base CX0 2 fD dD ["_law_script", "_law_turn", "_law_many"] (spDraws K)) (UD : Use K mg "_law_draws" ["_law_script", "_law_turn", "_law_many"] fD dD)
    (GS : FnOk P w K mg base CX0 1 fS dS ["_law_number"] spDrawnSigns) (US : Use K mg "_law_drawn_signs" ["_law_number"] fS dS)
    (GM : FnOk P w K mg base CX0 1 fM dM ["_law_cell", "_law_turn"] spMix) (UM : Use K mg "_law_mix" ["_law_cell", "_law_turn"] fM dM)
    (GC : FnOk P w K mg base CX0 1 fC dC ["_law_script", "_law_k"] (spCellAt K)) (UC : Use K mg "_law_cell_at" ["_law_script", "_law_k"] fC dC)
    (GP : FnOk P w K mg base CX0 2 fP dP ["_law_numbers", "_law_pool"] spPattern) (UP : Use K mg "_law_pattern" ["_law_numbers", "_law_pool"] fP dP)
    (GG : FnOk P w K mg base CX0 25 fG dG ["_law_pattern_here", "_law_feed"] (spGrown 25)) (UG : Use K mg "_law_grown" ["_law_pattern_here", "_law_feed"] fG dG) :
    FnOk P w K mg base CX0 26 f fd ["_law_script"] (spDrawn K) := by
  refine F.ok scDrawn (fun vs H Q E h => ?_) (fun cdv A outer s H vs Q E hr h => ?_)
  · obtain ⟨a, ns, rfl, _⟩ := h
    rfl
  obtain ⟨a, ns, rfl, hS, h63, q⟩ := h
  have hr1 : Room 1 _ := hr.mono (by omega)
  have hr2 : Room 2 _ := hr.mono (by omega)
  refine ⟨_, (pss_cons (ps_set (i := 1) scDrawn.nd rfl (Or.inl rfl) (pe_call GD hr2 rfl UD.m UD.k UD.b .nil pass0 (pa_cons (pv 0) (pa_cons pe_int (pa_cons pe_int pa_nil)))))
      (pss_cons (ps_set (i := 1) scDrawn.nd rfl (Or.inl rfl) (pe_slice sl_list (pv 1) po_none (po_some (pe_op op_mod (pe_ix ix_list (pv 1) pe_int (fun _ _ => rfl)) pe_int))))
      (pss_cons (ps_set (i := 2) scDrawn.nd rfl (Or.inr rfl) (pe_call GS hr1 rfl US.m US.k US.b .nil pass0 (pa_cons (pe_call GM hr1 rfl UM.m UM.k UM.b .nil pass0 (pa_cons (pe_call GC hr1 rfl UC.m UC.k UC.b .nil pass0 (pa_cons (pv 0) (pa_cons pe_int pa_nil))) (pa_cons pe_int pa_nil))) pa_nil)))
      (pss_cons (ps_set (i := 3) scDrawn.nd rfl (Or.inl rfl) (pe_call GP hr2 rfl UP.m UP.k UP.b .nil pass0 (pa_cons (pv 1) (pa_cons (pv 2) pa_nil))))
      (pss_cons (ps_set (i := 4) scDrawn.nd rfl (Or.inl rfl) (pe_call GD hr2 rfl UD.m UD.k UD.b .nil pass0 (pa_cons (pv 0) (pa_cons pe_int (pa_cons pe_int pa_nil)))))
      (pss_cons (ps_set (i := 4) scDrawn.nd rfl (Or.inl rfl) (pe_slice sl_list (pv 4) po_none (po_some (pe_op op_mod (pe_ix ix_list (pv 4) pe_int (fun _ _ => rfl)) pe_int))))
      (pss_cons (ps_set (i := 5) scDrawn.nd rfl (Or.inl rfl) (pe_op op_mod (pe_call GC hr1 rfl UC.m UC.k UC.b .nil pass0 (pa_cons (pv 0) (pa_cons pe_int pa_nil))) pe_int))
      (pss_cons (ps_if (pt_cmpR op_eq (pv 5) pe_int (nomark _))
      (pss_one (ps_ret (pe_tup (pa_cons (pv 3) (pa_cons (pe_lc (own := [("_law_number", 9)]) (g := gName 9) (tt := tYes) (te := tOp (rIxL K) (tVar 2) (tOp (rI (fun _ j => 0 < j) fun i j => .int (i % j)) (tVar 9) (tCB (fun xs H Q => ∃ p ys, xs = [.ref p] ∧ (SqL K H p ys ∨ SqT K H p ys) ∧ Q (.int ys.length) H) (tCons (tVar 2) tNil)))) rfl scDrawn.nd (pi_list (pe_slice sl_list (pv 4) po_none (po_some (pe_op op_mod (pe_call GM hr1 rfl UM.m UM.k UM.b .nil pass0 (pa_cons (pe_call GC hr1 rfl UC.m UC.k UC.b .nil pass0 (pa_cons (pv 0) (pa_cons pe_int pa_nil))) (pa_cons pe_int pa_nil))) pe_int)))) (blkOk_by (own := [("_law_number", 9)]) (N := nDrawn) (sc := defScope sDrawn) (by decide +kernel)) (fun _ _ _ _ _ => pg_name (i := 9) scDrawn.nd rfl (Or.inl rfl)) (fun _ _ _ _ _ => pts_nil) (fun _ _ _ _ _ => (pe_ix ix_list (pv 2) (pe_op op_mod (pv 9) (pe_callB call_len_seq (by rfl) T.len PySem.boot_len (pa_cons (pv 2) pa_nil))) (fun _ _ => rfl)))) pa_nil)))))
      pss_nil)
      (pss_cons (ps_set (i := 6) scDrawn.nd rfl (Or.inl rfl) (pe_call GG hr rfl UG.m UG.k UG.b .nil pass0 (pa_cons (pv 3) (pa_cons (pv 4) pa_nil))))
      (pss_cons (ps_set (i := 7) scDrawn.nd rfl (Or.inl rfl) (pe_op op_mod (pe_call GM hr1 rfl UM.m UM.k UM.b .nil pass0 (pa_cons (pe_call GC hr1 rfl UC.m UC.k UC.b .nil pass0 (pa_cons (pv 0) (pa_cons pe_int pa_nil))) (pa_cons pe_int pa_nil))) (pe_op op_add (pe_callB call_len_seq (by rfl) T.len PySem.boot_len (pa_cons (pv 6) pa_nil)) pe_int)))
      (pss_cons (ps_set (i := 8) scDrawn.nd rfl (Or.inl rfl) (pe_ix ix_list (pe_op op_cat (pv 2) (pe_lst (pa_cons pe_str pa_nil))) (pe_op op_mod (pe_call GM hr1 rfl UM.m UM.k UM.b .nil pass0 (pa_cons (pe_call GC hr1 rfl UC.m UC.k UC.b .nil pass0 (pa_cons (pv 0) (pa_cons pe_int pa_nil))) (pa_cons pe_int pa_nil))) (pe_op op_add (pe_callB call_len_seq (by rfl) T.len PySem.boot_len (pa_cons (pv 2) pa_nil)) pe_int)) (fun _ _ => rfl)))
      (pss_cons (PS_imp (t' := tEdit 2) (ps_if (pt_cmpR op_eq (pv 5) pe_int (nomark _))
      (pss_one (ps_set (i := 6) scDrawn.nd rfl (Or.inl rfl) (pe_op op_cat (pe_slice sl_list (pv 6) po_none (po_some (pv 7))) (pe_slice sl_list (pv 6) (po_some (pe_op op_add (pv 7) pe_int)) po_none))))
      pss_nil)
      (by
        rintro D σ H ⟨r, kk, sg, at', l, e6, e5, e7, e8, hl, ll, k⟩
        refine ⟨_, e5, rfl, _, rfl, ite2 (fun c => ?_) (fun c => ?_)⟩
        · have c : V.int kk = V.int 2 := of_decide_eq_true c
          have c : kk = 2 := by injection c
          have ec1 : cutV (l.map V.str) none (some (at' : Int)) = (l.take at').map V.str := by rw [List.map_take]; exact cut_to
          have lt1 : (l.take at').length ≤ l.length := by rw [List.length_take]; omega
          have ec2 : cutV (l.map V.str) (some ((at' : Int) + 1)) none = (l.drop (at' + 1)).map V.str := by rw [List.map_drop]; exact cut_from (k := (at' + 1))
          have ld : (l.drop (at' + 1)).length + (l.take at').length ≤ l.length := by rw [List.length_drop, List.length_take]; omega
          refine ⟨_, e6, _, e7, _, rfl, r, _, rfl, SqL.of hl, fun p1 n1 => ?_⟩
          have s1 := same_new n1 (.lst (cutV (l.map V.str) none (some (at' : Int))))
          refine ⟨_, e6, _, e7, _, _, rfl, rfl, _, rfl, r, _, rfl, SqL.of (s1 _ _ hl), fun p2 n2 => ?_⟩
          have s2 := same_new n2 (.lst (cutV (l.map V.str) (some ((at' : Int) + 1)) none))
          refine ⟨p1, p2, (l.take at').map V.str, (l.drop (at' + 1)).map V.str, rfl, rfl, s2 _ _ (by rw [upd_same, ec1]), by rw [upd_same, ec2], ?_, fun p3 n3 => ?_⟩
          · rw [List.length_map, List.length_map]; exact small (by omega)
          refine k p3 (l.take at' ++ l.drop (at' + 1)) _ ((s1.trans s2).trans (same_new n3 _)) (by rw [upd_same, List.map_append]) (by rw [List.length_append]; omega) (fun h => absurd c h)
        · have := k r l H (Same.refl H) hl (Nat.le_succ _) (fun _ => rfl)
          rw [set_same e6] at this
          exact this))
      (pss_cons (PS_imp (t' := tEdit 3) (ps_if (pt_cmpR op_eq (pv 5) pe_int (nomark _))
      (pss_one (ps_set (i := 6) scDrawn.nd rfl (Or.inl rfl) (pe_op op_cat (pe_op op_cat (pe_slice sl_list (pv 6) po_none (po_some (pv 7))) (pe_lst (pa_cons (pv 8) pa_nil))) (pe_slice sl_list (pv 6) (po_some (pv 7)) po_none))))
      pss_nil)
      (by
        rintro D σ H ⟨r, kk, sg, at', l, e6, e5, e7, e8, hl, ll, k⟩
        refine ⟨_, e5, rfl, _, rfl, ite2 (fun c => ?_) (fun c => ?_)⟩
        · have c : V.int kk = V.int 3 := of_decide_eq_true c
          have c : kk = 3 := by injection c
          have ec1 : cutV (l.map V.str) none (some (at' : Int)) = (l.take at').map V.str := by rw [List.map_take]; exact cut_to
          have lt1 : (l.take at').length ≤ l.length := by rw [List.length_take]; omega
          have ec2 : cutV (l.map V.str) (some (at' : Int)) none = (l.drop at').map V.str := by rw [List.map_drop]; exact cut_from (k := at')
          have ld : (l.drop at').length + (l.take at').length ≤ l.length := by rw [List.length_drop, List.length_take]; omega
          refine ⟨_, e6, _, e7, _, rfl, r, _, rfl, SqL.of hl, fun p1 n1 => ?_⟩
          have s1 := same_new n1 (.lst (cutV (l.map V.str) none (some (at' : Int))))
          refine ⟨_, e8, small (by show (1:Nat) ≤ 100000; decide), fun p4 n4 => ?_⟩
          have s4 := same_new n4 (.lst [.str sg])
          refine ⟨p1, p4, (l.take at').map V.str, [.str sg], rfl, rfl, s4 _ _ (by rw [upd_same, ec1]), upd_same, ?_, fun p5 n5 => ?_⟩
          · rw [List.length_map]; exact small (by show _ + 1 ≤ _; omega)
          have s5 := same_new n5 (.lst ((l.take at').map V.str ++ [.str sg]))
          have s15 := (s1.trans s4).trans s5
          refine ⟨_, e6, _, e7, _, rfl, r, _, rfl, SqL.of (s15 _ _ hl), fun p2 n2 => ?_⟩
          have s2 := same_new n2 (.lst (cutV (l.map V.str) (some (at' : Int)) none))
          refine ⟨p5, p2, (l.take at').map V.str ++ [.str sg], (l.drop at').map V.str, rfl, rfl, s2 _ _ upd_same, by rw [upd_same, ec2], ?_, fun p3 n3 => ?_⟩
          · rw [List.length_append, List.length_map, List.length_map]; exact small (by show _ + 1 + _ ≤ _; omega)
          refine k p3 (l.take at' ++ [sg] ++ l.drop at') _ ((s15.trans s2).trans (same_new n3 _)) (by rw [upd_same, List.map_append, List.map_append]; rfl) (by rw [List.length_append, List.length_append]; show _ + 1 + _ ≤ _; omega) (fun h => absurd c h)
        · have := k r l H (Same.refl H) hl (Nat.le_succ _) (fun _ => rfl)
          rw [set_same e6] at this
          exact this))
      (pss_cons (PS_imp (t' := tEdit 4) (ps_if (pt_cmpR op_eq (pv 5) pe_int (nomark _))
      (pss_one (ps_set (i := 6) scDrawn.nd rfl (Or.inl rfl) (pe_op op_cat (pe_op op_cat (pe_slice sl_list (pv 6) po_none (po_some (pv 7))) (pe_lst (pa_cons (pv 8) pa_nil))) (pe_slice sl_list (pv 6) (po_some (pe_op op_add (pv 7) pe_int)) po_none))))
      pss_nil)
      (by
        rintro D σ H ⟨r, kk, sg, at', l, e6, e5, e7, e8, hl, ll, k⟩
        refine ⟨_, e5, rfl, _, rfl, ite2 (fun c => ?_) (fun c => ?_)⟩
        · have c : V.int kk = V.int 4 := of_decide_eq_true c
          have c : kk = 4 := by injection c
          have ec1 : cutV (l.map V.str) none (some (at' : Int)) = (l.take at').map V.str := by rw [List.map_take]; exact cut_to
          have lt1 : (l.take at').length ≤ l.length := by rw [List.length_take]; omega
          have ec2 : cutV (l.map V.str) (some ((at' : Int) + 1)) none = (l.drop (at' + 1)).map V.str := by rw [List.map_drop]; exact cut_from (k := (at' + 1))
          have ld : (l.drop (at' + 1)).length + (l.take at').length ≤ l.length := by rw [List.length_drop, List.length_take]; omega
          refine ⟨_, e6, _, e7, _, rfl, r, _, rfl, SqL.of hl, fun p1 n1 => ?_⟩
          have s1 := same_new n1 (.lst (cutV (l.map V.str) none (some (at' : Int))))
          refine ⟨_, e8, small (by show (1:Nat) ≤ 100000; decide), fun p4 n4 => ?_⟩
          have s4 := same_new n4 (.lst [.str sg])
          refine ⟨p1, p4, (l.take at').map V.str, [.str sg], rfl, rfl, s4 _ _ (by rw [upd_same, ec1]), upd_same, ?_, fun p5 n5 => ?_⟩
          · rw [List.length_map]; exact small (by show _ + 1 ≤ _; omega)
          have s5 := same_new n5 (.lst ((l.take at').map V.str ++ [.str sg]))
          have s15 := (s1.trans s4).trans s5
          refine ⟨_, e6, _, e7, _, _, rfl, rfl, _, rfl, r, _, rfl, SqL.of (s15 _ _ hl), fun p2 n2 => ?_⟩
          have s2 := same_new n2 (.lst (cutV (l.map V.str) (some ((at' : Int) + 1)) none))
          refine ⟨p5, p2, (l.take at').map V.str ++ [.str sg], (l.drop (at' + 1)).map V.str, rfl, rfl, s2 _ _ upd_same, by rw [upd_same, ec2], ?_, fun p3 n3 => ?_⟩
          · rw [List.length_append, List.length_map, List.length_map]; exact small (by show _ + 1 + _ ≤ _; omega)
          refine k p3 (l.take at' ++ [sg] ++ l.drop (at' + 1)) _ ((s15.trans s2).trans (same_new n3 _)) (by rw [upd_same, List.map_append, List.map_append]; rfl) (by rw [List.length_append, List.length_append]; show _ + 1 + _ ≤ _; omega) (fun h => absurd c h)
        · have := k r l H (Same.refl H) hl (Nat.le_succ _) (fun _ => rfl)
          rw [set_same e6] at this
          exact this))
      (pss_one (ps_ret (pe_tup (pa_cons (pv 3) (pa_cons (pv 6) pa_nil))))))))))))))))))), ?_⟩
  -- numbers = draws(script, 7, 19)[..]
  refine ⟨_, rfl, a, ns, 7, 19, rfl, hS, h63, by omega, by omega, fun r1 H1 fs s1 n1 e1 l1 => ?_⟩
  obtain ⟨z18, _, a18⟩ := int_ix (xs := fs) (k := 18) (by omega)
  obtain ⟨k18, ek18, hk18⟩ := mod_ix z18 (n := 19) (by decide)
  refine ⟨_, rfl, _, rfl, r1, _, _, .int z18, rfl, rfl, SqL.of e1, a18, _, _, rfl, rfl, (by show (0 : Int) < 19; decide), _, rfl, r1, _, rfl, SqL.of e1, fun r2 n2 => ?_⟩
  have ec1 : cutV (fs.map V.int) none (some (z18 % 19)) = (fs.take k18).map V.int := by
    rw [List.map_take]
    have := cut_to (xs := fs.map V.int) (k := k18)
    rw [← ek18] at this
    exact this
  have e2 : upd H1 r2 (.lst (cutV (fs.map V.int) none (some (z18 % 19)))) r2 = some (.lst ((fs.take k18).map V.int)) := by rw [upd_same, ec1]
  have s2 := s1.trans (same_new n2 (.lst (cutV (fs.map V.int) none (some (z18 % 19)))))
  generalize upd H1 r2 (.lst (cutV (fs.map V.int) none (some (z18 % 19)))) = H2 at e2 s2
  -- names = drawn_signs(mix(cell_at(script, 0), 1))
  refine ⟨_, rfl, a, ns, 0, rfl, s2.seq hS, _, 1, rfl, by decide, by decide, fun z1 _ _ => ?_⟩
  refine ⟨z1, rfl, fun r3 H3 nm s3 n3 e3 pm => ?_⟩
  have lnm : nm.length = 7 := by rw [pm.length_eq]; rfl
  -- pattern_here = pattern(numbers, names)
  refine ⟨_, rfl, _, rfl, r2, r3, _, nm, rfl, s3 _ _ e2, e3, by rw [List.length_take]; omega, fun v p H4 s4 pa dp fr pl => ?_⟩
  have good : Good p := by
    obtain ⟨left, pl⟩ := pl
    have nd : (signs p ++ left).Nodup := pl.nodup_iff.mpr (pm.nodup_iff.mpr seven_nodup)
    have ll := pl.length_eq
    rw [List.length_append] at ll
    exact ⟨dp, fr, (nodup_app nd).1, by omega⟩
  have s04 := (s2.trans s3).trans s4
  -- feed = draws(script, 40, 44)[..]
  refine ⟨_, rfl, a, ns, 40, 44, rfl, s04.seq hS, h63, by omega, by omega, fun r5 H5 gs s5 n5 e5 l5 => ?_⟩
  obtain ⟨z43, _, a43⟩ := int_ix (xs := gs) (k := 43) (by omega)
  obtain ⟨k43, ek43, hk43⟩ := mod_ix z43 (n := 44) (by decide)
  refine ⟨_, rfl, _, rfl, r5, _, _, .int z43, rfl, rfl, SqL.of e5, a43, _, _, rfl, rfl, (by show (0 : Int) < 44; decide), _, rfl, r5, _, rfl, SqL.of e5, fun fe n6 => ?_⟩
  have ec2 : cutV (gs.map V.int) none (some (z43 % 44)) = (gs.take k43).map V.int := by
    rw [List.map_take]
    have := cut_to (xs := gs.map V.int) (k := k43)
    rw [← ek43] at this
    exact this
  have e6 : upd H5 fe (.lst (cutV (gs.map V.int) none (some (z43 % 44)))) fe = some (.lst ((gs.take k43).map V.int)) := by rw [upd_same, ec2]
  have s56 : Same H5 (era (upd H5 fe (.lst (cutV (gs.map V.int) none (some (z43 % 44))))) [fe]) := era_fresh n6 _
  generalize upd H5 fe (.lst (cutV (gs.map V.int) none (some (z43 % 44)))) = H6 at e6 s56
  have s06 : Same H (era H6 [fe]) := (s04.trans s5).trans s56
  have pa6 : PatAt (era H6 [fe]) v p := (pa.mono s5).mono s56
  have e36 : era H6 [fe] r3 = some (.lst (nm.map V.str)) := s56 _ _ (s5 _ _ (s4 _ _ e3))
  have lfeed : (gs.take k43).length ≤ 44 := by rw [List.length_take]; omega
  -- kind = cell_at(script, 1) % 6
  refine ⟨_, rfl, a, ns, 1, rfl, (same_of_era s06).seq hS, _, _, rfl, rfl, (by show (0 : Int) < 6; decide), ?_⟩
  -- if kind == 5
  refine ⟨_, rfl, rfl, _, rfl, ite2 (fun c => ?_) (fun c => ?_)⟩
  · have c : V.int (ns.getD 1 0 % 6) = V.int 5 := of_decide_eq_true c
    have c : ns.getD 1 0 % 6 = 5 := by injection c
    refine ⟨_, rfl, _, rfl, _, rfl, a, ns, 1, rfl, (same_of_era s06).seq hS, _, 13, rfl, by decide, by decide, fun z13 _ _ => ?_⟩
    obtain ⟨k13, ek13, hk13⟩ := mod_ix z13 (n := 7) (by decide)
    refine ⟨_, _, rfl, rfl, (by show (0 : Int) < 7; decide), _, rfl, fe, _, rfl, SqL.of e6, fun r7 n7 => ?_⟩
    have ec3 : cutV ((gs.take k43).map V.int) none (some (z13 % 7)) = ((gs.take k43).take k13).map V.int := by
      have := cut_to (xs := (gs.take k43).map V.int) (k := k13)
      rw [← ek13, ← List.map_take] at this
      exact this
    have e7 : upd H6 r7 (.lst (cutV ((gs.take k43).map V.int) none (some (z13 % 7)))) r7 = some (.lst (((gs.take k43).take k13).map V.int)) := by rw [upd_same, ec3]
    have s7 := same_new n7 (.lst (cutV ((gs.take k43).map V.int) none (some (z13 % 7))))
    generalize upd H6 r7 (.lst (cutV ((gs.take k43).map V.int) none (some (z13 % 7)))) = H7 at e7 s7
    have e37 := s7 _ _ (era_some e36).1
    refine ⟨r7, rfl, ⟨_, SqL.of e7⟩, fun D hD => lc_list (K := K) (a := r7) (xs := ((gs.take k43).take k13).map V.int) (fun i H8 => Same H7 H8 ∧ ∃ ws : List Str, H8 D = some (.lst (ws.map V.str)) ∧ ws.length = i)
        ⟨same_new hD _, [], upd_same, rfl⟩ (fun i H8 _ ⟨s8, _⟩ => SqL.of (s8 _ _ e7)) ?_ ?_⟩
    · rintro i x H8 hx ⟨s8, ws, f8, l8⟩
      obtain ⟨z, hz, rfl⟩ := int_at hx
      have hi := (List.getElem?_eq_some_iff.mp hz).1
      rw [List.length_take] at hi
      obtain ⟨k, ek, hk⟩ := mod_ix z (n := (nm.map V.str).length) (by rw [List.length_map]; omega)
      rw [List.length_map] at hk
      obtain ⟨y, _, ay⟩ := str_ix (xs := nm) (k := k) hk
      rw [← ek] at ay
      refine ⟨rfl, _, rfl, _, rfl, _, rfl, r3, _, rfl, .inl (SqL.of (s8 _ _ e37)), _, _, rfl, rfl, (by show (0 : Int) < ((nm.map V.str).length : Nat); rw [List.length_map]; omega), r3, _, _, .str y, rfl, rfl, SqL.of (s8 _ _ e37), ay, ?_⟩
      refine ⟨_, f8, ?_, same_upd s8 hD _, ws ++ [y], ?_, ?_⟩
      · rw [List.length_map]; exact smaller (by omega)
      · rw [upd_same, List.map_append]; rfl
      · rw [List.length_append, l8]; rfl
    · rintro H8 ⟨s8, ws, f8, l8⟩
      rw [List.length_map, List.length_take] at l8
      refine ⟨small (by show (2:Nat) ≤ 100000; decide), fun t nt => ?_⟩
      have s9 := (s7.trans s8).trans (same_new nt (.tup [v, .ref D]))
      exact q t D v p ws _ ((same_of_era s06).trans s9) upd_same ((pa6.mono (era_same _ _)).mono s9) good ((same_new nt _) _ _ f8) (by omega) (fun h => by omega)
  -- said = grown(pattern_here, feed)
  refine ⟨_, rfl, _, rfl, v, p, fe, gs.take k43, rfl, pa6, good.fat, good.2.2.2, e6, by omega, fun r7 l7 ns7 H7 s7 _ _ e7 _ L7 le7 => ?_⟩
  have s67 : Same (era H6 [fe]) H7 := s7.trans (era_same _ _)
  have s07 : Same H H7 := s06.trans s67
  have pa7 := pa6.mono s67
  have e37 := s67 _ _ e36
  have l7b : l7.length ≤ 1000 := by have := good.2.2.2; omega
  -- at, sign
  refine ⟨_, rfl, a, ns, 1, rfl, s07.seq hS, _, 9, rfl, by decide, by decide, fun z9 _ _ => ?_⟩
  refine ⟨_, rfl, r7, _, rfl, .inl (SqL.of e7), _, _, rfl, rfl, _, _, rfl, rfl, (by show (0 : Int) < ((l7.map V.str).length : Nat) + 1; omega), ?_⟩
  obtain ⟨at', eat, _⟩ := mod_ix z9 (n := (l7.map V.str).length + 1) (by omega)
  have eat : z9 % (((l7.map V.str).length : Nat) + 1 : Int) = (at' : Int) := eat
  refine ⟨_, rfl, small (by show (1:Nat) ≤ 100000; decide), fun r8 n8 => ?_⟩
  have s8 := same_new n8 (.lst [.str "zz"])
  refine ⟨r3, r8, _, _, rfl, rfl, s8 _ _ e37, upd_same, ?_, fun r9 n9 => ?_⟩
  · rw [List.length_map]; exact small (by show _ + 1 ≤ _; omega)
  have ez : nm.map V.str ++ [.str "zz"] = (nm ++ [("zz" : Str)]).map V.str := by rw [List.map_append]; rfl
  have s9 := s8.trans (same_new n9 (.lst (nm.map V.str ++ [.str "zz"])))
  have e9 : upd (upd H7 r8 (.lst [.str "zz"])) r9 (.lst (nm.map V.str ++ [.str "zz"])) r9 = some (.lst ((nm ++ [("zz" : Str)]).map V.str)) := by rw [upd_same, ez]
  generalize upd (upd H7 r8 (.lst [.str "zz"])) r9 (.lst (nm.map V.str ++ [.str "zz"])) = H9 at s9 e9
  refine ⟨_, rfl, a, ns, 1, rfl, (s07.trans s9).seq hS, _, 11, rfl, by decide, by decide, fun z11 _ _ => ?_⟩
  obtain ⟨k11, ek11, hk11⟩ := mod_ix z11 (n := (nm.map V.str).length + 1) (by omega)
  have ek11 : z11 % (((nm.map V.str).length : Nat) + 1 : Int) = (k11 : Int) := ek11
  rw [List.length_map] at hk11
  obtain ⟨sg, _, asg⟩ := str_ix (xs := nm ++ [("zz" : Str)]) (k := k11) (by rw [List.length_append]; exact hk11)
  rw [← ek11] at asg
  refine ⟨_, rfl, r3, _, rfl, .inl (SqL.of (s9 _ _ e37)), _, _, rfl, rfl, _, _, rfl, rfl, (by show (0 : Int) < ((nm.map V.str).length : Nat) + 1; omega), r9, _, _, .str sg, rfl, rfl, SqL.of e9, asg, ?_⟩
  -- the three edits
  have s79 := s9
  have e79 := s9 _ _ e7
  refine ⟨r7, _, sg, at', l7, rfl, rfl, by rw [← eat]; rfl, rfl, e79, by omega, fun r10 l10 H10 s10 e10 le10 k10 => ?_⟩
  refine ⟨r10, _, sg, at', l10, rfl, rfl, by rw [← eat]; rfl, rfl, e10, by omega, fun r11 l11 H11 s11 e11 le11 k11' => ?_⟩
  refine ⟨r11, _, sg, at', l11, rfl, rfl, by rw [← eat]; rfl, rfl, e11, by omega, fun r12 l12 H12 s12 e12 le12 k12 => ?_⟩
  refine ⟨_, rfl, _, rfl, small (by show (2:Nat) ≤ 100000; decide), fun t nt => ?_⟩
  have s712 := (((s79.trans s10).trans s11).trans s12).trans (same_new nt (.tup [v, .ref r12]))
  refine q t r12 v p l12 _ (s07.trans s712) upd_same (pa7.mono s712) good ((same_new nt _) _ _ e12) (by omega) fun hk => ?_
  rw [k12 (by omega), k11' (by omega), k10 (by omega)]
  exact L7
/-! ### law -/
theorem scL : FnScope ["_law_script", "_law_pattern_here", "_law_said", "_law_found"] ["_law_script"] (defScope sLaw) := ⟨rfl, rfl, rfl, by decide +kernel, rfl, by decide +kernel, by decide +kernel⟩
def spLaw (K : PySem.W.Frag) : Sp := fun vs H Q _ => ∃ (a : Addr) (ns : List Int), vs = [.ref a] ∧ SqL K H a (ns.map V.int) ∧ ns.length ≤ 63 ∧ ∀ H', Q (.bl true) H'
theorem ok_Law {fD fF fE fC : Addr} {dD dF dE dC : FuncData} (F : Fun K "law" "law" sLaw f fd) (T : Txt K mg C)
    (GD : FnOk P w K mg base CX0 26 fD dD ["_law_script"] (spDrawn K)) (UD : Use K mg "_law_drawn" ["_law_script"] fD dD)
    (GF : FnOk P w K mg base CX0 32 fF dF ["pattern", "word"] (spFits 25)) (UF : Use K mg "fits" ["pattern", "word"] fF dF)
    (GE : FnOk P w K mg base CX0 25 fE dE ["_law_pattern_here", "_law_said", "_law_starts"] (spEnds 25)) (UE : Use K mg "_law_ends" ["_law_pattern_here", "_law_said", "_law_starts"] fE dE)
    (GC : FnOk P w K mg base CX0 1 fC dC ["_law_script", "_law_k"] (spCellAt K)) (UC : Use K mg "_law_cell_at" ["_law_script", "_law_k"] fC dC) :
    FnOk P w K mg base CX0 33 f fd ["_law_script"] (spLaw K) := by
  refine F.ok scL (fun vs H Q E h => ?_) (fun cdv A outer s H vs Q E hr h => ?_)
  · obtain ⟨a, ns, rfl, _⟩ := h
    rfl
  obtain ⟨a, ns, rfl, hS, h63, q⟩ := h
  have hr26 : Room 26 _ := hr.mono (by omega)
  have hr25 : Room 25 _ := hr.mono (by omega)
  have hr1 : Room 1 _ := hr.mono (by omega)
  refine ⟨_, pss_cons (ps_asg (pe_call GD hr26 rfl UD.m UD.k UD.b .nil pass0 (pa_cons (pv 0) pa_nil)) (pg_tup (by rfl) (pgs_cons (pg_name (i := 1) scL.nd rfl (.inl rfl)) (pgs_cons (pg_name (i := 2) scL.nd rfl (.inl rfl)) pgs_nil))))
    (pss_cons (ps_set (i := 3) scL.nd rfl (Or.inl rfl) (pe_call GF hr rfl UF.m UF.k UF.b .nil pass0 (pa_cons (pv 1) (pa_cons (pv 2) pa_nil))))
    (pss_cons (ps_if (PW.pt (pw_or (pt_not (pt_val (pe_callB call_isi (by rfl) T.isi (by decide +kernel) (pa_cons (pv 3) (pa_cons (pe_bltn (v := .ty "bool") (u := .type "bool") (by rfl) T.bool (by decide +kernel) rfl) pa_nil)))))
        (pw_or1 (pt_cmpR op_ne (pv 3) (pe_cmpR op_in_seq (pe_callB call_len_seq (by rfl) T.len PySem.boot_len (pa_cons (pv 2) pa_nil)) (pe_call GE hr25 rfl UE.m UE.k UE.b .nil pass0 (pa_cons (pv 1) (pa_cons (pv 2) (pa_cons (pe_lst (pa_cons pe_int pa_nil)) pa_nil)))) (by rfl)) (nomark _)))))
      (pss_one (ps_ret pe_bl)) pss_nil)
    (pss_one (ps_ret (pe_or (pv 3) (pe_one (pe_cmpR op_gt (pe_op op_mod (pe_call GC hr1 rfl UC.m UC.k UC.b .nil pass0 (pa_cons (pv 0) (pa_cons pe_int pa_nil))) pe_int) pe_int (nomark _)))))))), ?_⟩
  refine ⟨_, rfl, a, ns, rfl, hS, h63, fun t ls v p ws H1 s1 et pa good els lws gr => ?_⟩
  refine ⟨t, _, rfl, SqT.of et, rfl, _, _, rfl, _, _, rfl, rfl, ?_⟩
  refine ⟨_, rfl, _, rfl, v, p, ls, ws, rfl, pa, good.fit, good.2.2.1, els, by omega, fun b H2 s2 hb => ?_⟩
  refine ⟨_, rfl, .bl b, .ty "bool", .type "bool", .type "bool", true, rfl, .ty _, .base (.bl b), kit_ty (by decide +kernel), _, rfl, iteF ?_⟩
  have els2 := s2 _ _ els
  refine ⟨_, rfl, _, rfl, ls, _, rfl, .inl (SqL.of els2), _, rfl, _, rfl, small (by show (1:Nat) ≤ 100000; decide), fun r3 n3 => ?_⟩
  have s3 := same_new n3 (.lst [.int 0])
  refine ⟨v, p, ls, r3, ws, [0], rfl, (pa.mono s2).mono s3, good.fat, s3 _ _ els2, by omega, upd_same, ⟨by simp, fun s hs => by rw [List.mem_singleton.mp hs]; exact Nat.zero_le _⟩, fun r4 H4 EE s4 n4 e4 en => ?_⟩
  refine ⟨r4, EE.map natV, rfl, .inl (SqL.of e4), rfl, flat_nats _, rfl, _, rfl, ?_⟩
  have ein : inV (V.int ((ws.map V.str).length : Nat)) (EE.map natV) = b := by
    have h1 : inV (V.int ((ws.map V.str).length : Nat)) (EE.map natV) = decide (ws.length ∈ EE) := by
      rw [List.length_map]; exact inV_nat
    rw [h1]
    have h2 := (ends_whole en).trans hb.symm
    cases b with
    | true => exact decide_eq_true (h2.mpr rfl)
    | false => exact decide_eq_false fun h => by have := h2.mp h; cases this
  have fin : (∀ H', Q (.bl true) H') := q
  have s14 := ((s1.trans s2).trans s3).trans s4
  have en2 : (!decide (V.bl b = V.bl (if false = true then !inV (V.int ((ws.map V.str).length : Nat)) (EE.map natV) else inV (V.int ((ws.map V.str).length : Nat)) (EE.map natV)))) = false := by
    rw [if_neg Bool.false_ne_true, ein]
    simp
  refine ite2 (fun c => ?_) (fun _ => ?_)
  · exact absurd (en2.symm.trans c) (by decide)
  refine ⟨_, rfl, _, rfl, ?_⟩
  cases b with
  | true => exact iteT (q _)
  | false =>
    refine iteF ⟨_, rfl, a, ns, 1, rfl, s14.seq hS, _, _, rfl, rfl, (by show (0 : Int) < 6; decide), _, _, rfl, rfl, ?_⟩
    have hn : ¬ ns.getD 1 0 % 6 ≤ 1 := fun h => by
      have := hb.mpr (gr h)
      cases this
    have : decide (1 < ns.getD 1 0 % 6) = true := decide_eq_true (by omega)
    show Q (.bl (decide (1 < ns.getD 1 0 % 6))) _
    rw [this]
    exact q _
end
end FW

end
section
namespace FW
open PySem L2 FF
/-- a def of the text stands at f -/
def DefAt (K : PySem.W.Frag) (x qual : Str) (st : Stmt) (f : Addr) : Prop := ∃ fd, Fun K x qual st f fd
theorem defAt_mk {K : PySem.W.Frag} {x qual : Str} {st : Stmt} {f : Addr} {oc : Value} {od an : Option Addr} {osl : Array (Option Value)} {kV doc pm cdv ct : Value} (l : K.lookup f = some ⟨oc, od, .func (PySem.W.fnOf x qual (defArgs st) (defBody st) (defScope st) .none kV doc pm an cdv ct), osl⟩)
    (c : PySem.W.codeIn K cdv qual = true) (k : PySem.W.keepIn K (.ref f) = true) : DefAt K x qual st f := ⟨_, fun_mk l c k⟩
structure ClsF (K : PySem.W.Frag) (C : Addr) : Prop where
  pg : PySem.W.plainGet K C Str.empty = true
  hd : PySem.W.hasDictIn K C = true
  po : PySem.W.plainOver K C = true
  sa : PySem.W.findIn K (.ref C) "__setattr__" = some (some (.builtin "object.__setattr__"))
  nw : PySem.W.findIn K (.ref C) "within" = some none
theorem ClsF.cls {K : PySem.W.Frag} {C : Addr} (c : ClsF K C) : Cls K C := ⟨c.pg, c.hd, c.po, c.sa⟩
theorem all_mk {l : PySem.W.OpenLaw} {w : World} {K : PySem.W.Frag} {h : Heap} {mg : Str → Option Value} {fa : Addr} (X : K.In h) (G : h.Ns mainGlobals mg) (hfa : mg "law" = some (.ref fa))
    {c_pat c_one c_row c_any c_maybe c_some c_many : Addr} {m_pinit m_psigns m_pbare m_pfirsts m_plasts m_padd m_oinit m_osigns m_obare m_ofirsts m_olasts m_rbare m_rfirsts m_rlasts m_radd m_abare m_afirsts m_alasts m_mbare m_sadd m_ybare : Addr} {t_lay t_pattern_of t_signs t_bare t_in_order t_firsts t_lasts t_nexts t_fits t__law_cell_at t__law_mix t__law_joined t__law_twice t__law_pattern t__law_drawn_signs t__law_grown t__law_draws t__law_drawn t__law_ends t_law : Addr}
    (a_pat : PySem.W.nsIn K mainGlobals "Pattern" = some (some (.ref c_pat)))
    (a_one : PySem.W.nsIn K mainGlobals "One" = some (some (.ref c_one)))
    (a_row : PySem.W.nsIn K mainGlobals "Row" = some (some (.ref c_row)))
    (a_any : PySem.W.nsIn K mainGlobals "Any" = some (some (.ref c_any)))
    (a_maybe : PySem.W.nsIn K mainGlobals "Maybe" = some (some (.ref c_maybe)))
    (a_some : PySem.W.nsIn K mainGlobals "Some" = some (some (.ref c_some)))
    (a_many : PySem.W.nsIn K mainGlobals "Many" = some (some (.ref c_many)))
    (k_pat : ClsF K c_pat)
    (k_one : ClsF K c_one)
    (k_row : ClsF K c_row)
    (k_any : ClsF K c_any)
    (k_maybe : ClsF K c_maybe)
    (k_some : ClsF K c_some)
    (k_many : ClsF K c_many)
    (n_sign : PySem.W.findIn K (.ref c_one) "sign" = some none)
    (me_signs_pat : Meth K c_pat "signs" m_psigns)
    (me_signs_one : Meth K c_one "signs" m_osigns)
    (me_signs_row : Meth K c_row "signs" m_psigns)
    (me_signs_any : Meth K c_any "signs" m_psigns)
    (me_signs_maybe : Meth K c_maybe "signs" m_psigns)
    (me_signs_some : Meth K c_some "signs" m_psigns)
    (me_signs_many : Meth K c_many "signs" m_psigns)
    (me_bare_pat : Meth K c_pat "bare" m_pbare)
    (me_bare_one : Meth K c_one "bare" m_obare)
    (me_bare_row : Meth K c_row "bare" m_rbare)
    (me_bare_any : Meth K c_any "bare" m_abare)
    (me_bare_maybe : Meth K c_maybe "bare" m_mbare)
    (me_bare_some : Meth K c_some "bare" m_abare)
    (me_bare_many : Meth K c_many "bare" m_ybare)
    (me_firsts_pat : Meth K c_pat "firsts" m_pfirsts)
    (me_firsts_one : Meth K c_one "firsts" m_ofirsts)
    (me_firsts_row : Meth K c_row "firsts" m_rfirsts)
    (me_firsts_any : Meth K c_any "firsts" m_afirsts)
    (me_firsts_maybe : Meth K c_maybe "firsts" m_afirsts)
    (me_firsts_some : Meth K c_some "firsts" m_afirsts)
    (me_firsts_many : Meth K c_many "firsts" m_afirsts)
    (me_lasts_pat : Meth K c_pat "lasts" m_plasts)
    (me_lasts_one : Meth K c_one "lasts" m_olasts)
    (me_lasts_row : Meth K c_row "lasts" m_rlasts)
    (me_lasts_any : Meth K c_any "lasts" m_alasts)
    (me_lasts_maybe : Meth K c_maybe "lasts" m_alasts)
    (me_lasts_some : Meth K c_some "lasts" m_alasts)
    (me_lasts_many : Meth K c_many "lasts" m_alasts)
    (me_add_nexts_pat : Meth K c_pat "add_nexts" m_padd)
    (me_add_nexts_one : Meth K c_one "add_nexts" m_padd)
    (me_add_nexts_row : Meth K c_row "add_nexts" m_radd)
    (me_add_nexts_any : Meth K c_any "add_nexts" m_padd)
    (me_add_nexts_maybe : Meth K c_maybe "add_nexts" m_padd)
    (me_add_nexts_some : Meth K c_some "add_nexts" m_sadd)
    (me_add_nexts_many : Meth K c_many "add_nexts" m_sadd)
    (mk_pat : Mk K c_pat m_pinit)
    (mk_one : Mk K c_one m_oinit)
    (mk_row : Mk K c_row m_pinit)
    (mk_any : Mk K c_any m_pinit)
    (mk_maybe : Mk K c_maybe m_pinit)
    (mk_some : Mk K c_some m_pinit)
    (mk_many : Mk K c_many m_pinit)
    (cfn : ClsFn K c_pat "__init__" m_pinit)
    (d_pinit : DefAt K "__init__" "Pattern.__init__" sPInit m_pinit)
    (d_psigns : DefAt K "signs" "Pattern.signs" sPSigns m_psigns)
    (d_pbare : DefAt K "bare" "Pattern.bare" sPBare m_pbare)
    (d_pfirsts : DefAt K "firsts" "Pattern.firsts" sPFirsts m_pfirsts)
    (d_plasts : DefAt K "lasts" "Pattern.lasts" sPLasts m_plasts)
    (d_padd : DefAt K "add_nexts" "Pattern.add_nexts" sPAdd m_padd)
    (d_oinit : DefAt K "__init__" "One.__init__" sOInit m_oinit)
    (d_osigns : DefAt K "signs" "One.signs" sOSigns m_osigns)
    (d_obare : DefAt K "bare" "One.bare" sOBare m_obare)
    (d_ofirsts : DefAt K "firsts" "One.firsts" sOFirsts m_ofirsts)
    (d_olasts : DefAt K "lasts" "One.lasts" sOLasts m_olasts)
    (d_rbare : DefAt K "bare" "Row.bare" sRBare m_rbare)
    (d_rfirsts : DefAt K "firsts" "Row.firsts" sRFirsts m_rfirsts)
    (d_rlasts : DefAt K "lasts" "Row.lasts" sRLasts m_rlasts)
    (d_radd : DefAt K "add_nexts" "Row.add_nexts" sRAdd m_radd)
    (d_abare : DefAt K "bare" "Any.bare" sABare m_abare)
    (d_afirsts : DefAt K "firsts" "Any.firsts" sAFirsts m_afirsts)
    (d_alasts : DefAt K "lasts" "Any.lasts" sALasts m_alasts)
    (d_mbare : DefAt K "bare" "Maybe.bare" sMBare m_mbare)
    (d_sadd : DefAt K "add_nexts" "Some.add_nexts" sSAdd m_sadd)
    (d_ybare : DefAt K "bare" "Many.bare" sYBare m_ybare)
    (alay : PySem.W.nsIn K mainGlobals "lay" = some (some (.ref t_lay)))
    (dlay : DefAt K "lay" "lay" sLay t_lay)
    (apattern_of : PySem.W.nsIn K mainGlobals "pattern_of" = some (some (.ref t_pattern_of)))
    (dpattern_of : DefAt K "pattern_of" "pattern_of" sPatOf t_pattern_of)
    (asigns : PySem.W.nsIn K mainGlobals "signs" = some (some (.ref t_signs)))
    (dsigns : DefAt K "signs" "signs" sSigns t_signs)
    (abare : PySem.W.nsIn K mainGlobals "bare" = some (some (.ref t_bare)))
    (dbare : DefAt K "bare" "bare" sBare t_bare)
    (ain_order : PySem.W.nsIn K mainGlobals "in_order" = some (some (.ref t_in_order)))
    (din_order : DefAt K "in_order" "in_order" sInOrder t_in_order)
    (afirsts : PySem.W.nsIn K mainGlobals "firsts" = some (some (.ref t_firsts)))
    (dfirsts : DefAt K "firsts" "firsts" sFirsts t_firsts)
    (alasts : PySem.W.nsIn K mainGlobals "lasts" = some (some (.ref t_lasts)))
    (dlasts : DefAt K "lasts" "lasts" sLasts t_lasts)
    (anexts : PySem.W.nsIn K mainGlobals "nexts" = some (some (.ref t_nexts)))
    (dnexts : DefAt K "nexts" "nexts" sNexts t_nexts)
    (afits : PySem.W.nsIn K mainGlobals "fits" = some (some (.ref t_fits)))
    (dfits : DefAt K "fits" "fits" sFits t_fits)
    (a_law_cell_at : PySem.W.nsIn K mainGlobals "_law_cell_at" = some (some (.ref t__law_cell_at)))
    (d_law_cell_at : DefAt K "_law_cell_at" "_law_cell_at" sCellAt t__law_cell_at)
    (a_law_mix : PySem.W.nsIn K mainGlobals "_law_mix" = some (some (.ref t__law_mix)))
    (d_law_mix : DefAt K "_law_mix" "_law_mix" sMix t__law_mix)
    (a_law_joined : PySem.W.nsIn K mainGlobals "_law_joined" = some (some (.ref t__law_joined)))
    (d_law_joined : DefAt K "_law_joined" "_law_joined" sJoined t__law_joined)
    (a_law_twice : PySem.W.nsIn K mainGlobals "_law_twice" = some (some (.ref t__law_twice)))
    (d_law_twice : DefAt K "_law_twice" "_law_twice" sTwice t__law_twice)
    (a_law_pattern : PySem.W.nsIn K mainGlobals "_law_pattern" = some (some (.ref t__law_pattern)))
    (d_law_pattern : DefAt K "_law_pattern" "_law_pattern" sPattern t__law_pattern)
    (a_law_drawn_signs : PySem.W.nsIn K mainGlobals "_law_drawn_signs" = some (some (.ref t__law_drawn_signs)))
    (d_law_drawn_signs : DefAt K "_law_drawn_signs" "_law_drawn_signs" sDrawnSigns t__law_drawn_signs)
    (a_law_grown : PySem.W.nsIn K mainGlobals "_law_grown" = some (some (.ref t__law_grown)))
    (d_law_grown : DefAt K "_law_grown" "_law_grown" sGrown t__law_grown)
    (a_law_draws : PySem.W.nsIn K mainGlobals "_law_draws" = some (some (.ref t__law_draws)))
    (d_law_draws : DefAt K "_law_draws" "_law_draws" sDraws t__law_draws)
    (a_law_drawn : PySem.W.nsIn K mainGlobals "_law_drawn" = some (some (.ref t__law_drawn)))
    (d_law_drawn : DefAt K "_law_drawn" "_law_drawn" sDrawn t__law_drawn)
    (a_law_ends : PySem.W.nsIn K mainGlobals "_law_ends" = some (some (.ref t__law_ends)))
    (d_law_ends : DefAt K "_law_ends" "_law_ends" sEnds t__law_ends)
    (alaw : PySem.W.nsIn K mainGlobals "law" = some (some (.ref t_law)))
    (dlaw : DefAt K "law" "law" sLaw t_law)
    (z_all_ : PySem.W.nsIn K mainGlobals "all" = some none)
    (z_any_ : PySem.W.nsIn K mainGlobals "any" = some none)
    (z_rev : PySem.W.nsIn K mainGlobals "reversed" = some none)
    (z_len : PySem.W.nsIn K mainGlobals "len" = some none)
    (z_range : PySem.W.nsIn K mainGlobals "range" = some none)
    (z_list : PySem.W.nsIn K mainGlobals "list" = some none)
    (z_sum : PySem.W.nsIn K mainGlobals "sum" = some none)
    (z_isi : PySem.W.nsIn K mainGlobals "isinstance" = some none)
    (z_bool : PySem.W.nsIn K mainGlobals "bool" = some none) :
    ∃ fd : FuncData, (∀ (s : Shared) (v : Value), BindsTo s fd ⟨[v], []⟩ [("_law_script", v)]) ∧ ∀ base : Heap, K.In base → base.Ns mainGlobals mg → FnOk l.prog w K mg base CX0 33 fa fd ["_law_script"] (spLaw K) := by
  have e := hfa.symm.trans (PySem.W.mg_of X G alaw)
  cases e
  obtain ⟨f_pinit, F_pinit⟩ := d_pinit
  obtain ⟨f_psigns, F_psigns⟩ := d_psigns
  obtain ⟨f_pbare, F_pbare⟩ := d_pbare
  obtain ⟨f_pfirsts, F_pfirsts⟩ := d_pfirsts
  obtain ⟨f_plasts, F_plasts⟩ := d_plasts
  obtain ⟨f_padd, F_padd⟩ := d_padd
  obtain ⟨f_oinit, F_oinit⟩ := d_oinit
  obtain ⟨f_osigns, F_osigns⟩ := d_osigns
  obtain ⟨f_obare, F_obare⟩ := d_obare
  obtain ⟨f_ofirsts, F_ofirsts⟩ := d_ofirsts
  obtain ⟨f_olasts, F_olasts⟩ := d_olasts
  obtain ⟨f_rbare, F_rbare⟩ := d_rbare
  obtain ⟨f_rfirsts, F_rfirsts⟩ := d_rfirsts
  obtain ⟨f_rlasts, F_rlasts⟩ := d_rlasts
  obtain ⟨f_radd, F_radd⟩ := d_radd
  obtain ⟨f_abare, F_abare⟩ := d_abare
  obtain ⟨f_afirsts, F_afirsts⟩ := d_afirsts
  obtain ⟨f_alasts, F_alasts⟩ := d_alasts
  obtain ⟨f_mbare, F_mbare⟩ := d_mbare
  obtain ⟨f_sadd, F_sadd⟩ := d_sadd
  obtain ⟨f_ybare, F_ybare⟩ := d_ybare
  obtain ⟨f_lay, F_lay⟩ := dlay
  obtain ⟨f_pattern_of, F_pattern_of⟩ := dpattern_of
  obtain ⟨f_signs, F_signs⟩ := dsigns
  obtain ⟨f_bare, F_bare⟩ := dbare
  obtain ⟨f_in_order, F_in_order⟩ := din_order
  obtain ⟨f_firsts, F_firsts⟩ := dfirsts
  obtain ⟨f_lasts, F_lasts⟩ := dlasts
  obtain ⟨f_nexts, F_nexts⟩ := dnexts
  obtain ⟨f_fits, F_fits⟩ := dfits
  obtain ⟨f__law_cell_at, F__law_cell_at⟩ := d_law_cell_at
  obtain ⟨f__law_mix, F__law_mix⟩ := d_law_mix
  obtain ⟨f__law_joined, F__law_joined⟩ := d_law_joined
  obtain ⟨f__law_twice, F__law_twice⟩ := d_law_twice
  obtain ⟨f__law_pattern, F__law_pattern⟩ := d_law_pattern
  obtain ⟨f__law_drawn_signs, F__law_drawn_signs⟩ := d_law_drawn_signs
  obtain ⟨f__law_grown, F__law_grown⟩ := d_law_grown
  obtain ⟨f__law_draws, F__law_draws⟩ := d_law_draws
  obtain ⟨f__law_drawn, F__law_drawn⟩ := d_law_drawn
  obtain ⟨f__law_ends, F__law_ends⟩ := d_law_ends
  obtain ⟨f_law, F_law⟩ := dlaw
  let C : Kd → Addr := fun k => match k with | .pat => c_pat | .one => c_one | .row => c_row | .any => c_any | .maybe => c_maybe | .some => c_some | .many => c_many
  let A : Md → Addr := fun k => match k with | .pinit => m_pinit | .psigns => m_psigns | .pbare => m_pbare | .pfirsts => m_pfirsts | .plasts => m_plasts | .padd => m_padd | .oinit => m_oinit | .osigns => m_osigns | .obare => m_obare | .ofirsts => m_ofirsts | .olasts => m_olasts | .rbare => m_rbare | .rfirsts => m_rfirsts | .rlasts => m_rlasts | .radd => m_radd | .abare => m_abare | .afirsts => m_afirsts | .alasts => m_alasts | .mbare => m_mbare | .sadd => m_sadd | .ybare => m_ybare
  let D : Md → FuncData := fun k => match k with | .pinit => f_pinit | .psigns => f_psigns | .pbare => f_pbare | .pfirsts => f_pfirsts | .plasts => f_plasts | .padd => f_padd | .oinit => f_oinit | .osigns => f_osigns | .obare => f_obare | .ofirsts => f_ofirsts | .olasts => f_olasts | .rbare => f_rbare | .rfirsts => f_rfirsts | .rlasts => f_rlasts | .radd => f_radd | .abare => f_abare | .afirsts => f_afirsts | .alasts => f_alasts | .mbare => f_mbare | .sadd => f_sadd | .ybare => f_ybare
  have T : Txt K mg C := ⟨fun k => match k with | .pat => k_pat.cls | .one => k_one.cls | .row => k_row.cls | .any => k_any.cls | .maybe => k_maybe.cls | .some => k_some.cls | .many => k_many.cls, fun k => match k with | .pat => k_pat.nw | .one => k_one.nw | .row => k_row.nw | .any => k_any.nw | .maybe => k_maybe.nw | .some => k_some.nw | .many => k_many.nw, n_sign, PySem.W.mg_of X G a_pat, PySem.W.mg_of X G a_one, PySem.W.mg_of X G a_row, PySem.W.mg_of X G a_any, PySem.W.mg_of X G a_maybe, PySem.W.mg_of X G a_some, PySem.W.mg_of X G a_many, PySem.W.mg_none_of X G z_all_, PySem.W.mg_none_of X G z_any_, PySem.W.mg_none_of X G z_rev, PySem.W.mg_none_of X G z_len, PySem.W.mg_none_of X G z_range, PySem.W.mg_none_of X G z_list, PySem.W.mg_none_of X G z_sum, PySem.W.mg_none_of X G z_isi, PySem.W.mg_none_of X G z_bool⟩
  have M : Mets K C A D := ⟨F_pinit, F_psigns, F_pbare, F_pfirsts, F_plasts, F_padd, F_oinit, F_osigns, F_obare, F_ofirsts, F_olasts, F_rbare, F_rfirsts, F_rlasts, F_radd, F_abare, F_afirsts, F_alasts, F_mbare, F_sadd, F_ybare,
    fun k => match k with | .pat => me_signs_pat | .one => me_signs_one | .row => me_signs_row | .any => me_signs_any | .maybe => me_signs_maybe | .some => me_signs_some | .many => me_signs_many,
    fun k => match k with | .pat => me_bare_pat | .one => me_bare_one | .row => me_bare_row | .any => me_bare_any | .maybe => me_bare_maybe | .some => me_bare_some | .many => me_bare_many,
    fun k => match k with | .pat => me_firsts_pat | .one => me_firsts_one | .row => me_firsts_row | .any => me_firsts_any | .maybe => me_firsts_maybe | .some => me_firsts_some | .many => me_firsts_many,
    fun k => match k with | .pat => me_lasts_pat | .one => me_lasts_one | .row => me_lasts_row | .any => me_lasts_any | .maybe => me_lasts_maybe | .some => me_lasts_some | .many => me_lasts_many,
    fun k => match k with | .pat => me_add_nexts_pat | .one => me_add_nexts_one | .row => me_add_nexts_row | .any => me_add_nexts_any | .maybe => me_add_nexts_maybe | .some => me_add_nexts_some | .many => me_add_nexts_many,
    cfn, fun k hk => match k, hk with | .pat, hk => mk_pat | .one, hk => absurd rfl hk | .row, hk => mk_row | .any, hk => mk_any | .maybe, hk => mk_maybe | .some, hk => mk_some | .many, hk => mk_many, mk_one⟩
  have U_lay : Use K mg "lay" ["table", "heads", "tails"] t_lay f_lay := ⟨PySem.W.mg_of X G alay, F_lay.kp, F_lay.binds fun _ _ _ _ _ _ us hl => match us, hl with | [_, _, _], _ => rfl⟩
  have U_pattern_of : Use K mg "pattern_of" ["told"] t_pattern_of f_pattern_of := ⟨PySem.W.mg_of X G apattern_of, F_pattern_of.kp, F_pattern_of.binds fun _ _ _ _ _ _ us hl => match us, hl with | [_], _ => rfl⟩
  have U_signs : Use K mg "signs" ["pattern"] t_signs f_signs := ⟨PySem.W.mg_of X G asigns, F_signs.kp, F_signs.binds fun _ _ _ _ _ _ us hl => match us, hl with | [_], _ => rfl⟩
  have U_bare : Use K mg "bare" ["pattern"] t_bare f_bare := ⟨PySem.W.mg_of X G abare, F_bare.kp, F_bare.binds fun _ _ _ _ _ _ us hl => match us, hl with | [_], _ => rfl⟩
  have U_in_order : Use K mg "in_order" ["pattern", "found"] t_in_order f_in_order := ⟨PySem.W.mg_of X G ain_order, F_in_order.kp, F_in_order.binds fun _ _ _ _ _ _ us hl => match us, hl with | [_, _], _ => rfl⟩
  have U_firsts : Use K mg "firsts" ["pattern"] t_firsts f_firsts := ⟨PySem.W.mg_of X G afirsts, F_firsts.kp, F_firsts.binds fun _ _ _ _ _ _ us hl => match us, hl with | [_], _ => rfl⟩
  have U_lasts : Use K mg "lasts" ["pattern"] t_lasts f_lasts := ⟨PySem.W.mg_of X G alasts, F_lasts.kp, F_lasts.binds fun _ _ _ _ _ _ us hl => match us, hl with | [_], _ => rfl⟩
  have U_nexts : Use K mg "nexts" ["pattern"] t_nexts f_nexts := ⟨PySem.W.mg_of X G anexts, F_nexts.kp, F_nexts.binds fun _ _ _ _ _ _ us hl => match us, hl with | [_], _ => rfl⟩
  have U_fits : Use K mg "fits" ["pattern", "word"] t_fits f_fits := ⟨PySem.W.mg_of X G afits, F_fits.kp, F_fits.binds fun _ _ _ _ _ _ us hl => match us, hl with | [_, _], _ => rfl⟩
  have U__law_cell_at : Use K mg "_law_cell_at" ["_law_script", "_law_k"] t__law_cell_at f__law_cell_at := ⟨PySem.W.mg_of X G a_law_cell_at, F__law_cell_at.kp, F__law_cell_at.binds fun _ _ _ _ _ _ us hl => match us, hl with | [_, _], _ => rfl⟩
  have U__law_mix : Use K mg "_law_mix" ["_law_cell", "_law_turn"] t__law_mix f__law_mix := ⟨PySem.W.mg_of X G a_law_mix, F__law_mix.kp, F__law_mix.binds fun _ _ _ _ _ _ us hl => match us, hl with | [_, _], _ => rfl⟩
  have U__law_joined : Use K mg "_law_joined" ["_law_kind", "_law_parts"] t__law_joined f__law_joined := ⟨PySem.W.mg_of X G a_law_joined, F__law_joined.kp, F__law_joined.binds fun _ _ _ _ _ _ us hl => match us, hl with | [_, _], _ => rfl⟩
  have U__law_twice : Use K mg "_law_twice" ["_law_pattern_here"] t__law_twice f__law_twice := ⟨PySem.W.mg_of X G a_law_twice, F__law_twice.kp, F__law_twice.binds fun _ _ _ _ _ _ us hl => match us, hl with | [_], _ => rfl⟩
  have U__law_pattern : Use K mg "_law_pattern" ["_law_numbers", "_law_pool"] t__law_pattern f__law_pattern := ⟨PySem.W.mg_of X G a_law_pattern, F__law_pattern.kp, F__law_pattern.binds fun _ _ _ _ _ _ us hl => match us, hl with | [_, _], _ => rfl⟩
  have U__law_drawn_signs : Use K mg "_law_drawn_signs" ["_law_number"] t__law_drawn_signs f__law_drawn_signs := ⟨PySem.W.mg_of X G a_law_drawn_signs, F__law_drawn_signs.kp, F__law_drawn_signs.binds fun _ _ _ _ _ _ us hl => match us, hl with | [_], _ => rfl⟩
  have U__law_grown : Use K mg "_law_grown" ["_law_pattern_here", "_law_feed"] t__law_grown f__law_grown := ⟨PySem.W.mg_of X G a_law_grown, F__law_grown.kp, F__law_grown.binds fun _ _ _ _ _ _ us hl => match us, hl with | [_, _], _ => rfl⟩
  have U__law_draws : Use K mg "_law_draws" ["_law_script", "_law_turn", "_law_many"] t__law_draws f__law_draws := ⟨PySem.W.mg_of X G a_law_draws, F__law_draws.kp, F__law_draws.binds fun _ _ _ _ _ _ us hl => match us, hl with | [_, _, _], _ => rfl⟩
  have U__law_drawn : Use K mg "_law_drawn" ["_law_script"] t__law_drawn f__law_drawn := ⟨PySem.W.mg_of X G a_law_drawn, F__law_drawn.kp, F__law_drawn.binds fun _ _ _ _ _ _ us hl => match us, hl with | [_], _ => rfl⟩
  have U__law_ends : Use K mg "_law_ends" ["_law_pattern_here", "_law_said", "_law_starts"] t__law_ends f__law_ends := ⟨PySem.W.mg_of X G a_law_ends, F__law_ends.kp, F__law_ends.binds fun _ _ _ _ _ _ us hl => match us, hl with | [_, _, _], _ => rfl⟩
  refine ⟨f_law, ?_, fun base _ _ => ?_⟩
  · obtain ⟨oc, od, kV, doc, pm, an, cdv, ct, osl, e, _, _⟩ := F_law.ex
    subst e
    exact fun s v => .of_eq rfl
  have O : PO l.prog w K mg base C 25 t_pattern_of f_pattern_of := ⟨all_PatOf F_pattern_of T (mks M T) U_pattern_of.m U_pattern_of.b 25, U_pattern_of.m, U_pattern_of.b, U_pattern_of.k⟩
  have DS := dispS (P := l.prog) (w := w) (base := base) M T 25
  have DB := dispB (P := l.prog) (w := w) (base := base) M T 25
  have DF := dispF (P := l.prog) (w := w) (base := base) M T 25
  have DL := dispL (P := l.prog) (w := w) (base := base) M T 25
  have DA := dispA (P := l.prog) (w := w) (base := base) M T F_lay U_lay.b U_lay.m 25
  have G1 := ok_Signs F_signs T O DS
  have G2 := ok_Bare F_bare T O DB
  have G3 := ok_InOrder F_in_order G1 U_signs.m U_signs.k U_signs.b
  have G4 := ok_Firsts F_firsts T O DF G3 U_in_order.m U_in_order.k U_in_order.b
  have G5 := ok_Lasts F_lasts T O DL G3 U_in_order.m U_in_order.k U_in_order.b
  have G6 := ok_Nexts F_nexts T O DA G3 U_in_order.m U_in_order.k U_in_order.b G1 U_signs.m U_signs.k U_signs.b
  have G7 := ok_Fits F_fits T G2 U_bare.m U_bare.k U_bare.b G6 U_nexts.m U_nexts.k U_nexts.b G4 U_firsts.m U_firsts.k U_firsts.b G5 U_lasts.m U_lasts.k U_lasts.b
  have L1 := ok_CellAt (P := l.prog) (w := w) (base := base) F__law_cell_at T
  have L2 := ok_Mix (P := l.prog) (w := w) (mg := mg) (base := base) F__law_mix
  have L3 := ok_Joined (P := l.prog) (w := w) (base := base) F__law_joined T
  have L4 := ok_Twice (P := l.prog) (w := w) (mg := mg) (base := base) F__law_twice
  have L5 := ok_Pattern F__law_pattern T L3 U__law_joined.m U__law_joined.k U__law_joined.b L4 U__law_twice.m U__law_twice.k U__law_twice.b
  have L6 := ok_DrawnSigns (P := l.prog) (w := w) (base := base) F__law_drawn_signs T
  have L7 := ok_Draws F__law_draws T L2 U__law_mix.m U__law_mix.k U__law_mix.b
  have L8 := all_Grown (P := l.prog) (w := w) (base := base) F__law_grown T U__law_grown.m U__law_grown.b 25
  have L9 := all_Ends (P := l.prog) (w := w) (base := base) F__law_ends T U__law_ends.m U__law_ends.b 25
  have L10 := ok_Drawn F__law_drawn T L7 U__law_draws L6 U__law_drawn_signs L2 U__law_mix L1 U__law_cell_at L5 U__law_pattern L8 U__law_grown
  exact ok_Law F_law T L10 U__law_drawn G7 U_fits L9 U__law_ends L1 U__law_cell_at
theorem walk {l : PySem.W.OpenLaw} {q : Program} {loose : List Str} {XP : (Str → Option Value) → Heap → Prop} {YP : World → Heap → Prop} {d : DefRec} {K : Params → PySem.W.Frag} (hn : l.most = some 63) (hdf : d.params.defaults = [])
    (hY : ∀ (w : World) (h : Heap), YP w h → (K w.params).In h)
    (F : ∀ (w : World) (mg : Str → Option Value) (fa : Addr) (h : Heap), (K w.params).In h → h.Ns mainGlobals mg → mg d.name = some (.ref fa) →
      ∃ fd : FuncData, (∀ (s : Shared) (u : Value), BindsTo s fd ⟨[u], []⟩ [("_law_script", u)]) ∧ ∀ base : Heap, (K w.params).In base → base.Ns mainGlobals mg → FnOk l.prog w (K w.params) mg base CX0 33 fa fd ["_law_script"] (spLaw (K w.params))) :
    PySem.W.WalkO q loose XP YP l.row.toRowW d [] (fun f vs => PySem.call f vs) :=
  L2.walk_of (n := 63) (k := 33) (x := "_law_script") (CX := fun _ => CX0) (sp := fun w => spLaw (K w.params)) hn (by decide) hdf ⟨rfl, by decide, by decide⟩ hY F (fun _ _ a ns hl _ hS => ⟨a, ns, rfl, hS, hl, fun _ => rfl⟩) fun _ _ _ _ _ z => z
end FW

end
open PySem PySem.W PyProof.Rows
set_option maxRecDepth 100000 in
set_option maxHeartbeats 0 in
theorem PySem.Challenge.cw_formferry_k05_whole_fits_is_the_meaning_holds : PySem.Challenge.rw_formferry_k05_whole_fits_is_the_meaning.Holds := by
  w_on; o_law; k_head; (case hw => w_witness2)
  k_fill
  refine FW.walk (l := PySem.Challenge.rw_formferry_k05_whole_fits_is_the_meaning) rfl rfl (fun w h Y => PySem.W.kIn_of Y) ?F
  case F =>
    intro w mg fa h KX G hmg
    refine' FW.all_mk KX G hmg ?a_pat ?a_one ?a_row ?a_any ?a_maybe ?a_some ?a_many ?k_pat ?k_one ?k_row ?k_any ?k_maybe ?k_some ?k_many ?n_sign ?me_signs_pat ?me_signs_one ?me_signs_row ?me_signs_any ?me_signs_maybe ?me_signs_some ?me_signs_many ?me_bare_pat ?me_bare_one ?me_bare_row ?me_bare_any ?me_bare_maybe ?me_bare_some ?me_bare_many ?me_firsts_pat ?me_firsts_one ?me_firsts_row ?me_firsts_any ?me_firsts_maybe ?me_firsts_some ?me_firsts_many ?me_lasts_pat ?me_lasts_one ?me_lasts_row ?me_lasts_any ?me_lasts_maybe ?me_lasts_some ?me_lasts_many ?me_add_nexts_pat ?me_add_nexts_one ?me_add_nexts_row ?me_add_nexts_any ?me_add_nexts_maybe ?me_add_nexts_some ?me_add_nexts_many ?mk_pat ?mk_one ?mk_row ?mk_any ?mk_maybe ?mk_some ?mk_many ?cfn ?d_pinit ?d_psigns ?d_pbare ?d_pfirsts ?d_plasts ?d_padd ?d_oinit ?d_osigns ?d_obare ?d_ofirsts ?d_olasts ?d_rbare ?d_rfirsts ?d_rlasts ?d_radd ?d_abare ?d_afirsts ?d_alasts ?d_mbare ?d_sadd ?d_ybare ?alay ?dlay ?apattern_of ?dpattern_of ?asigns ?dsigns ?abare ?dbare ?ain_order ?din_order ?afirsts ?dfirsts ?alasts ?dlasts ?anexts ?dnexts ?afits ?dfits ?a_law_cell_at ?d_law_cell_at ?a_law_mix ?d_law_mix ?a_law_joined ?d_law_joined ?a_law_twice ?d_law_twice ?a_law_pattern ?d_law_pattern ?a_law_drawn_signs ?d_law_drawn_signs ?a_law_grown ?d_law_grown ?a_law_draws ?d_law_draws ?a_law_drawn ?d_law_drawn ?a_law_ends ?d_law_ends ?alaw ?dlaw ?z_all_ ?z_any_ ?z_rev ?z_len ?z_range ?z_list ?z_sum ?z_isi ?z_bool
    (case a_pat => k_is)
    (case a_one => k_is)
    (case a_row => k_is)
    (case a_any => k_is)
    (case a_maybe => k_is)
    (case a_some => k_is)
    (case a_many => k_is)
    (case k_pat => (refine' ⟨?a, ?b, ?c, ?d, ?e⟩; (case a => k_is); (case b => k_is); (case c => k_is); (case d => k_is); (case e => k_is)))
    (case k_one => (refine' ⟨?a, ?b, ?c, ?d, ?e⟩; (case a => k_is); (case b => k_is); (case c => k_is); (case d => k_is); (case e => k_is)))
    (case k_row => (refine' ⟨?a, ?b, ?c, ?d, ?e⟩; (case a => k_is); (case b => k_is); (case c => k_is); (case d => k_is); (case e => k_is)))
    (case k_any => (refine' ⟨?a, ?b, ?c, ?d, ?e⟩; (case a => k_is); (case b => k_is); (case c => k_is); (case d => k_is); (case e => k_is)))
    (case k_maybe => (refine' ⟨?a, ?b, ?c, ?d, ?e⟩; (case a => k_is); (case b => k_is); (case c => k_is); (case d => k_is); (case e => k_is)))
    (case k_some => (refine' ⟨?a, ?b, ?c, ?d, ?e⟩; (case a => k_is); (case b => k_is); (case c => k_is); (case d => k_is); (case e => k_is)))
    (case k_many => (refine' ⟨?a, ?b, ?c, ?d, ?e⟩; (case a => k_is); (case b => k_is); (case c => k_is); (case d => k_is); (case e => k_is)))
    (case n_sign => k_is)
    (case me_signs_pat => (refine' ⟨?a, ?b, ?c⟩; (case a => k_is); (case b => k_is); (case c => k_is)))
    (case me_signs_one => (refine' ⟨?a, ?b, ?c⟩; (case a => k_is); (case b => k_is); (case c => k_is)))
    (case me_signs_row => (refine' ⟨?a, ?b, ?c⟩; (case a => k_is); (case b => k_is); (case c => k_is)))
    (case me_signs_any => (refine' ⟨?a, ?b, ?c⟩; (case a => k_is); (case b => k_is); (case c => k_is)))
    (case me_signs_maybe => (refine' ⟨?a, ?b, ?c⟩; (case a => k_is); (case b => k_is); (case c => k_is)))
    (case me_signs_some => (refine' ⟨?a, ?b, ?c⟩; (case a => k_is); (case b => k_is); (case c => k_is)))
    (case me_signs_many => (refine' ⟨?a, ?b, ?c⟩; (case a => k_is); (case b => k_is); (case c => k_is)))
    (case me_bare_pat => (refine' ⟨?a, ?b, ?c⟩; (case a => k_is); (case b => k_is); (case c => k_is)))
    (case me_bare_one => (refine' ⟨?a, ?b, ?c⟩; (case a => k_is); (case b => k_is); (case c => k_is)))
    (case me_bare_row => (refine' ⟨?a, ?b, ?c⟩; (case a => k_is); (case b => k_is); (case c => k_is)))
    (case me_bare_any => (refine' ⟨?a, ?b, ?c⟩; (case a => k_is); (case b => k_is); (case c => k_is)))
    (case me_bare_maybe => (refine' ⟨?a, ?b, ?c⟩; (case a => k_is); (case b => k_is); (case c => k_is)))
    (case me_bare_some => (refine' ⟨?a, ?b, ?c⟩; (case a => k_is); (case b => k_is); (case c => k_is)))
    (case me_bare_many => (refine' ⟨?a, ?b, ?c⟩; (case a => k_is); (case b => k_is); (case c => k_is)))
    (case me_firsts_pat => (refine' ⟨?a, ?b, ?c⟩; (case a => k_is); (case b => k_is); (case c => k_is)))
    (case me_firsts_one => (refine' ⟨?a, ?b, ?c⟩; (case a => k_is); (case b => k_is); (case c => k_is)))
    (case me_firsts_row => (refine' ⟨?a, ?b, ?c⟩; (case a => k_is); (case b => k_is); (case c => k_is)))
    (case me_firsts_any => (refine' ⟨?a, ?b, ?c⟩; (case a => k_is); (case b => k_is); (case c => k_is)))
    (case me_firsts_maybe => (refine' ⟨?a, ?b, ?c⟩; (case a => k_is); (case b => k_is); (case c => k_is)))
    (case me_firsts_some => (refine' ⟨?a, ?b, ?c⟩; (case a => k_is); (case b => k_is); (case c => k_is)))
    (case me_firsts_many => (refine' ⟨?a, ?b, ?c⟩; (case a => k_is); (case b => k_is); (case c => k_is)))
    (case me_lasts_pat => (refine' ⟨?a, ?b, ?c⟩; (case a => k_is); (case b => k_is); (case c => k_is)))
    (case me_lasts_one => (refine' ⟨?a, ?b, ?c⟩; (case a => k_is); (case b => k_is); (case c => k_is)))
    (case me_lasts_row => (refine' ⟨?a, ?b, ?c⟩; (case a => k_is); (case b => k_is); (case c => k_is)))
    (case me_lasts_any => (refine' ⟨?a, ?b, ?c⟩; (case a => k_is); (case b => k_is); (case c => k_is)))
    (case me_lasts_maybe => (refine' ⟨?a, ?b, ?c⟩; (case a => k_is); (case b => k_is); (case c => k_is)))
    (case me_lasts_some => (refine' ⟨?a, ?b, ?c⟩; (case a => k_is); (case b => k_is); (case c => k_is)))
    (case me_lasts_many => (refine' ⟨?a, ?b, ?c⟩; (case a => k_is); (case b => k_is); (case c => k_is)))
    (case me_add_nexts_pat => (refine' ⟨?a, ?b, ?c⟩; (case a => k_is); (case b => k_is); (case c => k_is)))
    (case me_add_nexts_one => (refine' ⟨?a, ?b, ?c⟩; (case a => k_is); (case b => k_is); (case c => k_is)))
    (case me_add_nexts_row => (refine' ⟨?a, ?b, ?c⟩; (case a => k_is); (case b => k_is); (case c => k_is)))
    (case me_add_nexts_any => (refine' ⟨?a, ?b, ?c⟩; (case a => k_is); (case b => k_is); (case c => k_is)))
    (case me_add_nexts_maybe => (refine' ⟨?a, ?b, ?c⟩; (case a => k_is); (case b => k_is); (case c => k_is)))
    (case me_add_nexts_some => (refine' ⟨?a, ?b, ?c⟩; (case a => k_is); (case b => k_is); (case c => k_is)))
    (case me_add_nexts_many => (refine' ⟨?a, ?b, ?c⟩; (case a => k_is); (case b => k_is); (case c => k_is)))
    (case mk_pat => (refine' ⟨?a, ?b, ?c, ?d⟩; (case a => k_is); (case b => k_is); (case c => k_is); (case d => k_is)))
    (case mk_one => (refine' ⟨?a, ?b, ?c, ?d⟩; (case a => k_is); (case b => k_is); (case c => k_is); (case d => k_is)))
    (case mk_row => (refine' ⟨?a, ?b, ?c, ?d⟩; (case a => k_is); (case b => k_is); (case c => k_is); (case d => k_is)))
    (case mk_any => (refine' ⟨?a, ?b, ?c, ?d⟩; (case a => k_is); (case b => k_is); (case c => k_is); (case d => k_is)))
    (case mk_maybe => (refine' ⟨?a, ?b, ?c, ?d⟩; (case a => k_is); (case b => k_is); (case c => k_is); (case d => k_is)))
    (case mk_some => (refine' ⟨?a, ?b, ?c, ?d⟩; (case a => k_is); (case b => k_is); (case c => k_is); (case d => k_is)))
    (case mk_many => (refine' ⟨?a, ?b, ?c, ?d⟩; (case a => k_is); (case b => k_is); (case c => k_is); (case d => k_is)))
    (case cfn => (refine' ⟨?a, ?b, ?c, ?d⟩; (case a => k_is); (case b => k_is); (case c => k_is); (case d => k_is)))
    (case d_pinit => (refine' FW.defAt_mk ?a ?b ?c; (case a => k_is); (case b => k_is); (case c => k_is)))
    (case d_psigns => (refine' FW.defAt_mk ?a ?b ?c; (case a => k_is); (case b => k_is); (case c => k_is)))
    (case d_pbare => (refine' FW.defAt_mk ?a ?b ?c; (case a => k_is); (case b => k_is); (case c => k_is)))
    (case d_pfirsts => (refine' FW.defAt_mk ?a ?b ?c; (case a => k_is); (case b => k_is); (case c => k_is)))
    (case d_plasts => (refine' FW.defAt_mk ?a ?b ?c; (case a => k_is); (case b => k_is); (case c => k_is)))
    (case d_padd => (refine' FW.defAt_mk ?a ?b ?c; (case a => k_is); (case b => k_is); (case c => k_is)))
    (case d_oinit => (refine' FW.defAt_mk ?a ?b ?c; (case a => k_is); (case b => k_is); (case c => k_is)))
    (case d_osigns => (refine' FW.defAt_mk ?a ?b ?c; (case a => k_is); (case b => k_is); (case c => k_is)))
    (case d_obare => (refine' FW.defAt_mk ?a ?b ?c; (case a => k_is); (case b => k_is); (case c => k_is)))
    (case d_ofirsts => (refine' FW.defAt_mk ?a ?b ?c; (case a => k_is); (case b => k_is); (case c => k_is)))
    (case d_olasts => (refine' FW.defAt_mk ?a ?b ?c; (case a => k_is); (case b => k_is); (case c => k_is)))
    (case d_rbare => (refine' FW.defAt_mk ?a ?b ?c; (case a => k_is); (case b => k_is); (case c => k_is)))
    (case d_rfirsts => (refine' FW.defAt_mk ?a ?b ?c; (case a => k_is); (case b => k_is); (case c => k_is)))
    (case d_rlasts => (refine' FW.defAt_mk ?a ?b ?c; (case a => k_is); (case b => k_is); (case c => k_is)))
    (case d_radd => (refine' FW.defAt_mk ?a ?b ?c; (case a => k_is); (case b => k_is); (case c => k_is)))
    (case d_abare => (refine' FW.defAt_mk ?a ?b ?c; (case a => k_is); (case b => k_is); (case c => k_is)))
    (case d_afirsts => (refine' FW.defAt_mk ?a ?b ?c; (case a => k_is); (case b => k_is); (case c => k_is)))
    (case d_alasts => (refine' FW.defAt_mk ?a ?b ?c; (case a => k_is); (case b => k_is); (case c => k_is)))
    (case d_mbare => (refine' FW.defAt_mk ?a ?b ?c; (case a => k_is); (case b => k_is); (case c => k_is)))
    (case d_sadd => (refine' FW.defAt_mk ?a ?b ?c; (case a => k_is); (case b => k_is); (case c => k_is)))
    (case d_ybare => (refine' FW.defAt_mk ?a ?b ?c; (case a => k_is); (case b => k_is); (case c => k_is)))
    (case alay => k_is)
    (case dlay => (refine' FW.defAt_mk ?a ?b ?c; (case a => k_is); (case b => k_is); (case c => k_is)))
    (case apattern_of => k_is)
    (case dpattern_of => (refine' FW.defAt_mk ?a ?b ?c; (case a => k_is); (case b => k_is); (case c => k_is)))
    (case asigns => k_is)
    (case dsigns => (refine' FW.defAt_mk ?a ?b ?c; (case a => k_is); (case b => k_is); (case c => k_is)))
    (case abare => k_is)
    (case dbare => (refine' FW.defAt_mk ?a ?b ?c; (case a => k_is); (case b => k_is); (case c => k_is)))
    (case ain_order => k_is)
    (case din_order => (refine' FW.defAt_mk ?a ?b ?c; (case a => k_is); (case b => k_is); (case c => k_is)))
    (case afirsts => k_is)
    (case dfirsts => (refine' FW.defAt_mk ?a ?b ?c; (case a => k_is); (case b => k_is); (case c => k_is)))
    (case alasts => k_is)
    (case dlasts => (refine' FW.defAt_mk ?a ?b ?c; (case a => k_is); (case b => k_is); (case c => k_is)))
    (case anexts => k_is)
    (case dnexts => (refine' FW.defAt_mk ?a ?b ?c; (case a => k_is); (case b => k_is); (case c => k_is)))
    (case afits => k_is)
    (case dfits => (refine' FW.defAt_mk ?a ?b ?c; (case a => k_is); (case b => k_is); (case c => k_is)))
    (case a_law_cell_at => k_is)
    (case d_law_cell_at => (refine' FW.defAt_mk ?a ?b ?c; (case a => k_is); (case b => k_is); (case c => k_is)))
    (case a_law_mix => k_is)
    (case d_law_mix => (refine' FW.defAt_mk ?a ?b ?c; (case a => k_is); (case b => k_is); (case c => k_is)))
    (case a_law_joined => k_is)
    (case d_law_joined => (refine' FW.defAt_mk ?a ?b ?c; (case a => k_is); (case b => k_is); (case c => k_is)))
    (case a_law_twice => k_is)
    (case d_law_twice => (refine' FW.defAt_mk ?a ?b ?c; (case a => k_is); (case b => k_is); (case c => k_is)))
    (case a_law_pattern => k_is)
    (case d_law_pattern => (refine' FW.defAt_mk ?a ?b ?c; (case a => k_is); (case b => k_is); (case c => k_is)))
    (case a_law_drawn_signs => k_is)
    (case d_law_drawn_signs => (refine' FW.defAt_mk ?a ?b ?c; (case a => k_is); (case b => k_is); (case c => k_is)))
    (case a_law_grown => k_is)
    (case d_law_grown => (refine' FW.defAt_mk ?a ?b ?c; (case a => k_is); (case b => k_is); (case c => k_is)))
    (case a_law_draws => k_is)
    (case d_law_draws => (refine' FW.defAt_mk ?a ?b ?c; (case a => k_is); (case b => k_is); (case c => k_is)))
    (case a_law_drawn => k_is)
    (case d_law_drawn => (refine' FW.defAt_mk ?a ?b ?c; (case a => k_is); (case b => k_is); (case c => k_is)))
    (case a_law_ends => k_is)
    (case d_law_ends => (refine' FW.defAt_mk ?a ?b ?c; (case a => k_is); (case b => k_is); (case c => k_is)))
    (case alaw => k_is)
    (case dlaw => (refine' FW.defAt_mk ?a ?b ?c; (case a => k_is); (case b => k_is); (case c => k_is)))
    (case z_all_ => k_is)
    (case z_any_ => k_is)
    (case z_rev => k_is)
    (case z_len => k_is)
    (case z_range => k_is)
    (case z_list => k_is)
    (case z_sum => k_is)
    (case z_isi => k_is)
    (case z_bool => k_is)
