import PyProof.Rows.All
import Wide.All
import OpenK.AllK
import Wide.FinOn
import HandS.ForMost
import HandS.Codes
import HandS.Style
import HandS.NoneIn
import HandS.TupAny
import HandS.TupMul
import HandS.Conv
import HandS.Defaults
import KE.GoesEnum
import KE.KRevSl
import HandS.Walk
import KE.KDictPairs
import PyProof.Rows.NestShow
import HandS.HeadHook2
import HandS.HeadEnd
import KE.KStateDown
import HandS.Head0
import HandS.Head1
import HandS.Head2
import HandS.HeadHook1
import PySem.Challenge.RW_slippedwritings_k43_folded_graphs_by_own
set_option Elab.async false
set_option linter.all false
set_option maxRecDepth 100000
set_option maxHeartbeats 16000000
/-! Words, their nets, and how they act on a folded graph's cosets. -/
namespace FG
abbrev W := List Int

/-- a row grown by an act at its end, what cancels taken out -/
def push (st : W) (a : Int) : W := if st.getLast? = some (-a) then st.dropLast else st ++ [a]
def net (w : W) : W := w.foldl push []
def undo (w : W) : W := (w.map (fun a => -a)).reverse

/-- no act beside what undoes it -/
def Red : W → Prop
  | [] => True
  | [_] => True
  | a :: b :: r => a ≠ -b ∧ Red (b :: r)

theorem Red.tail : ∀ {a : Int} {r : W}, Red (a :: r) → Red r
  | _, [], _ => trivial
  | _, _ :: _, h => h.2
theorem Red.append_left : ∀ {x y : W}, Red (x ++ y) → Red x
  | [], _, _ => trivial
  | [_], _, _ => trivial
  | _ :: b :: r, y, h => ⟨h.1, Red.append_left (x := b :: r) (y := y) h.2⟩
theorem Red.append_right : ∀ {x y : W}, Red (x ++ y) → Red y
  | [], _, h => h
  | _ :: x, y, h => Red.append_right (x := x) (y := y) (Red.tail h)
theorem Red.snoc : ∀ {st : W} {a : Int}, Red st → st.getLast? ≠ some (-a) → Red (st ++ [a])
  | [], _, _, _ => trivial
  | [b], a, _, h => ⟨fun e => h (by simp [e]), trivial⟩
  | b :: c :: r, a, hr, h => ⟨hr.1, Red.snoc (st := c :: r) hr.2 (by simpa [List.getLast?_cons_cons] using h)⟩
theorem Red.last_ne : ∀ {st : W} {a : Int}, Red (st ++ [a]) → st.getLast? ≠ some (-a)
  | [], _, _ => by simp
  | [b], a, h => by
    have h1 : b ≠ -a := h.1
    simpa using h1
  | b :: c :: r, a, h => by
    have := Red.last_ne (st := c :: r) (a := a) h.2
    simpa [List.getLast?_cons_cons] using this
theorem Red.dropLast {st : W} (h : Red st) : Red st.dropLast := by
  rcases List.eq_nil_or_concat st with e | ⟨l, a, e⟩
  · subst e; exact h
  · subst e
    rw [List.concat_eq_append] at h ⊢
    rw [List.dropLast_concat]
    exact Red.append_left h
theorem Red.push {st : W} {a : Int} (h : Red st) : Red (push st a) := by
  unfold FG.push
  split
  · exact h.dropLast
  · rename_i e; exact h.snoc e
theorem red_foldl : ∀ (w : W) {st : W}, Red st → Red (w.foldl push st)
  | [], _, h => h
  | a :: w, _, h => red_foldl w (h.push (a := a))
theorem red_net (w : W) : Red (net w) := red_foldl w (st := []) trivial
theorem foldl_red : ∀ (w : W) {st : W}, Red (st ++ w) → w.foldl push st = st ++ w
  | [], st, _ => by simp
  | a :: w, st, h => by
    have h1 : Red (st ++ [a]) := Red.append_left (y := w) (by simpa using h)
    have e : push st a = st ++ [a] := by
      unfold FG.push
      rw [if_neg h1.last_ne]
    show w.foldl push (push st a) = _
    rw [e, foldl_red w (by simpa using h)]
    simp
theorem net_red {w : W} (h : Red w) : net w = w := by
  have := foldl_red w (st := []) (by simpa using h)
  simpa [net] using this
theorem net_net (w : W) : net (net w) = net w := net_red (red_net w)

/-! ### a folded graph: where a sign leads from a place -/
abbrev Dl := Nat → Int → Option Nat
def InvD (δ : Dl) : Prop := ∀ p a q, δ p a = some q → δ q (-a) = some p
abbrev Cs := Nat × W
def act (δ : Dl) (c : Cs) (a : Int) : Cs :=
  if c.2 = [] then (match δ c.1 a with | some q => (q, []) | none => (c.1, [a])) else (c.1, push c.2 a)
def actW (δ : Dl) (c : Cs) (w : W) : Cs := w.foldl (act δ) c
def Val (δ : Dl) (c : Cs) : Prop := Red c.2 ∧ ∀ a r, c.2 = a :: r → δ c.1 a = none
def readOn (δ : Dl) : Nat → W → Cs
  | p, [] => (p, [])
  | p, a :: r => match δ p a with | some q => readOn δ q r | none => (p, a :: r)

theorem actW_nil {δ : Dl} {c : Cs} : actW δ c [] = c := rfl
theorem actW_cons {δ : Dl} {c : Cs} {a : Int} {w : W} : actW δ c (a :: w) = actW δ (act δ c a) w := rfl
theorem actW_append {δ : Dl} {c : Cs} {u v : W} : actW δ c (u ++ v) = actW δ (actW δ c u) v := List.foldl_append ..
theorem actW_snoc {δ : Dl} {c : Cs} {u : W} {a : Int} : actW δ c (u ++ [a]) = act δ (actW δ c u) a := by
  rw [actW_append]; rfl

theorem push_ne {st : W} {a : Int} (h : st.getLast? ≠ some (-a)) : push st a = st ++ [a] := if_neg h
theorem push_eq {st : W} {a : Int} (h : st.getLast? = some (-a)) : push st a = st.dropLast := if_pos h

theorem Val.act {δ : Dl} {c : Cs} {a : Int} (v : Val δ c) : Val δ (act δ c a) := by
  obtain ⟨p, t⟩ := c
  obtain ⟨hr, hv⟩ := v
  unfold FG.act
  by_cases ht : t = []
  · subst ht
    rw [if_pos rfl]
    cases e : δ p a with
    | some q => exact ⟨trivial, fun _ _ q => nomatch q⟩
    | none => exact ⟨trivial, fun b r q => by cases q; exact e⟩
  · rw [if_neg ht]
    refine ⟨hr.push, fun b r q => ?_⟩
    cases t with
    | nil => exact absurd rfl ht
    | cons x t =>
      by_cases hl : (x :: t).getLast? = some (-a)
      · simp only [push_eq hl] at q
        cases t with
        | nil => simp at q
        | cons y t =>
          simp only [List.dropLast_cons_cons, List.cons.injEq] at q
          rw [← q.1]
          exact hv x _ rfl
      · simp only [push_ne hl, List.cons_append, List.cons.injEq] at q
        rw [← q.1]
        exact hv x _ rfl
theorem Val.actW {δ : Dl} : ∀ (w : W) {c : Cs}, Val δ c → Val δ (actW δ c w)
  | [], _, v => v
  | _ :: w, _, v => Val.actW w v.act
theorem Val.base {δ : Dl} (p : Nat) : Val δ (p, []) := ⟨trivial, fun _ _ q => nomatch q⟩

theorem act_undo {δ : Dl} (hi : InvD δ) {c : Cs} {a : Int} (v : Val δ c) : act δ (act δ c a) (-a) = c := by
  obtain ⟨p, t⟩ := c
  obtain ⟨hr, hv⟩ := v
  by_cases ht : t = []
  · subst ht
    cases e : δ p a with
    | some q =>
      have e1 : act δ (p, []) a = (q, []) := by simp [FG.act, e]
      rw [e1]
      simp [FG.act, hi p a q e]
    | none =>
      have e1 : act δ (p, []) a = (p, [a]) := by simp [FG.act, e]
      rw [e1]
      simp [FG.act, push]
  · have e1 : act δ (p, t) a = (p, push t a) := by simp [FG.act, ht]
    rw [e1]
    rcases List.eq_nil_or_concat t with e | ⟨l, b, e⟩
    · exact absurd e ht
    · rw [List.concat_eq_append] at e
      subst e
      by_cases hb : b = -a
      · subst hb
        have e2 : push (l ++ [-a]) a = l := by simp [push]
        rw [e2]
        by_cases hl : l = []
        · subst hl
          have : δ p (-a) = none := hv _ _ rfl
          simp [FG.act, this]
        · have h3 := hr.last_ne
          simp only [Int.neg_neg] at h3
          simp [FG.act, hl, push, h3]
      · have e2 : push (l ++ [b]) a = l ++ [b] ++ [a] := by
          rw [push_ne]
          simp [hb]
        rw [e2]
        simp [FG.act, push]
theorem actW_push {δ : Dl} (hi : InvD δ) {c : Cs} (v : Val δ c) (st : W) (a : Int) : actW δ c (push st a) = act δ (actW δ c st) a := by
  by_cases h : st.getLast? = some (-a)
  · rw [push_eq h]
    rcases List.eq_nil_or_concat st with e | ⟨l, b, e⟩
    · subst e; simp at h
    · rw [List.concat_eq_append] at e
      subst e
      simp only [List.getLast?_append, List.getLast?_singleton, Option.some_or, Option.some.injEq] at h
      subst h
      rw [List.dropLast_concat, actW_snoc]
      have := act_undo hi (v.actW l) (a := -a)
      rw [Int.neg_neg] at this
      exact this.symm
  · rw [push_ne h, actW_snoc]
theorem actW_foldl {δ : Dl} (hi : InvD δ) {c : Cs} (v : Val δ c) : ∀ (w st : W), actW δ c (w.foldl push st) = actW δ c (st ++ w)
  | [], st => by simp
  | a :: w, st => by
    show actW δ c (w.foldl push (push st a)) = _
    rw [actW_foldl hi v w (push st a), actW_append, actW_push hi v, actW_append]
    rfl
theorem actW_net {δ : Dl} (hi : InvD δ) {c : Cs} (v : Val δ c) (w : W) : actW δ c (net w) = actW δ c w := by
  have := actW_foldl hi v w []
  simpa [net] using this
theorem actW_undo {δ : Dl} (hi : InvD δ) : ∀ (w : W) {c : Cs}, Val δ c → actW δ (actW δ c w) (undo w) = c
  | [], _, _ => rfl
  | a :: w, c, v => by
    have e : undo (a :: w) = undo w ++ [-a] := by simp [undo]
    rw [e, actW_snoc, actW_cons, actW_undo hi w v.act, act_undo hi v]
/-- a tail that has begun goes on -/
theorem actW_tail {δ : Dl} {p : Nat} : ∀ (r t : W), t ≠ [] → Red (t ++ r) → actW δ (p, t) r = (p, t ++ r)
  | [], t, _, _ => by simp [actW]
  | a :: r, t, ht, hr => by
    have h1 : Red (t ++ [a]) := Red.append_left (y := r) (by simpa using hr)
    have e : act δ (p, t) a = (p, t ++ [a]) := by
      simp only [FG.act, ht, if_false, push_ne h1.last_ne]
    rw [actW_cons, e, actW_tail r (t ++ [a]) (by simp) (by simpa using hr)]
    simp
theorem actW_read {δ : Dl} : ∀ (w : W) (p : Nat), Red w → actW δ (p, []) w = readOn δ p w
  | [], _, _ => rfl
  | a :: r, p, h => by
    rw [actW_cons]
    cases e : δ p a with
    | some q =>
      have e1 : act δ (p, []) a = (q, []) := by simp [FG.act, e]
      rw [e1, actW_read r q h.tail]
      simp [readOn, e]
    | none =>
      have e1 : act δ (p, []) a = (p, [a]) := by simp [FG.act, e]
      rw [e1, actW_tail r [a] (by simp) h]
      simp [readOn, e]
theorem actW_val {δ : Dl} {p : Nat} {t : W} (v : Val δ (p, t)) : actW δ (p, []) t = (p, t) := by
  cases t with
  | nil => rfl
  | cons a r =>
    rw [actW_read _ _ v.1]
    have : δ p a = none := v.2 a r rfl
    simp [readOn, this]
/-- THE COSET BEHIND: what is read on of the net tail and doing -/
theorem behind {δ : Dl} (hi : InvD δ) {p : Nat} {t x : W} (v : Val δ (p, t)) : readOn δ p (net (t ++ x)) = actW δ (p, t) x := by
  rw [← actW_read _ _ (red_net _), actW_net hi (Val.base p), actW_append, actW_val v]
/-- ways that come back don't leave -/
theorem read_prefix {δ : Dl} : ∀ (u v : W) {p q : Nat}, readOn δ p (u ++ v) = (q, []) → ∃ x, readOn δ p u = (x, []) ∧ readOn δ x v = (q, [])
  | [], _, p, _, h => ⟨p, rfl, h⟩
  | a :: u, v, p, q, h => by
    cases e : δ p a with
    | none => simp [readOn, e] at h
    | some r =>
      have h' : readOn δ r (u ++ v) = (q, []) := by simpa [readOn, e] using h
      obtain ⟨x, h1, h2⟩ := read_prefix u v h'
      exact ⟨x, by simpa [readOn, e] using h1, h2⟩
theorem read_append {δ : Dl} : ∀ (u v : W) {p x : Nat}, readOn δ p u = (x, []) → readOn δ p (u ++ v) = readOn δ x v
  | [], _, p, x, h => by
    have : p = x := by simpa [readOn] using h
    rw [this]; rfl
  | a :: u, v, p, x, h => by
    cases e : δ p a with
    | none => simp [readOn, e] at h
    | some r =>
      have h' : readOn δ r u = (x, []) := by simpa [readOn, e] using h
      simpa [readOn, e] using read_append u v h'

/-- what fixes home -/
def Fix (δ : Dl) (w : W) : Prop := actW δ (0, []) w = (0, [])
theorem Fix.nil {δ : Dl} : Fix δ [] := rfl
theorem Fix.append {δ : Dl} {u v : W} (hu : Fix δ u) (hv : Fix δ v) : Fix δ (u ++ v) := by
  unfold Fix at *; rw [actW_append, hu, hv]
theorem Fix.net {δ : Dl} (hi : InvD δ) {w : W} : Fix δ (net w) ↔ Fix δ w := by
  unfold Fix; rw [actW_net hi (Val.base 0)]
theorem Fix.undo {δ : Dl} (hi : InvD δ) {w : W} (h : Fix δ w) : Fix δ (undo w) := by
  have := actW_undo hi w (Val.base (δ := δ) 0)
  unfold Fix at *
  rw [h] at this
  exact this
theorem undo_undo (w : W) : undo (undo w) = w := by
  unfold undo
  rw [← List.map_reverse, List.reverse_reverse, List.map_map]
  have : ((fun a : Int => -a) ∘ fun a => -a) = id := by funext a; simp
  rw [this, List.map_id]
theorem Fix.undo_iff {δ : Dl} (hi : InvD δ) {w : W} : Fix δ (FG.undo w) ↔ Fix δ w :=
  ⟨fun h => by have := h.undo hi; rwa [undo_undo] at this, fun h => h.undo hi⟩
theorem Fix.cancel {δ : Dl} (hi : InvD δ) {u v : W} (hv : Fix δ v) (h : Fix δ (u ++ v)) : Fix δ u := by
  have h1 : Fix δ ((u ++ v) ++ FG.undo v) := h.append (hv.undo hi)
  unfold Fix at *
  rw [actW_append, actW_append] at h1
  rw [actW_undo hi v ((Val.base 0).actW u)] at h1
  exact h1
/-- cosets are one exactly if the difference is of the group -/
theorem fix_diff {δ : Dl} (hi : InvD δ) {u v : W} : Fix δ (u ++ FG.undo v) ↔ actW δ (0, []) u = actW δ (0, []) v := by
  unfold Fix
  rw [actW_append]
  constructor
  · intro h
    have h1 := actW_undo hi (FG.undo v) ((Val.base (δ := δ) 0).actW u)
    rw [h, undo_undo] at h1
    exact h1.symm
  · intro h
    rw [h, actW_undo hi v (Val.base 0)]
end FG
namespace FG
theorem push_sub {st : W} {a s : Int} (h : s ∈ push st a) : s ∈ st ∨ s = a := by
  unfold push at h
  split at h
  · exact .inl (List.dropLast_subset _ h)
  · simpa using h
theorem foldl_sub : ∀ (w : W) {st : W} {s : Int}, s ∈ w.foldl push st → s ∈ st ∨ s ∈ w
  | [], _, _, h => .inl h
  | a :: w, st, s, h => by
    rcases foldl_sub w (st := push st a) h with h | h
    · rcases push_sub h with h | h
      · exact .inl h
      · exact .inr (by simp [h])
    · exact .inr (by simp [h])
theorem net_sub (w : W) {s : Int} (h : s ∈ net w) : s ∈ w := by
  rcases foldl_sub w h with h | h
  · cases h
  · exact h
theorem push_len (st : W) (a : Int) : (push st a).length ≤ st.length + 1 := by
  unfold push
  split
  · simp; omega
  · simp
theorem foldl_len : ∀ (w st : W), (w.foldl push st).length ≤ st.length + w.length
  | [], st => by simp
  | a :: w, st => by
    have h1 := foldl_len w (push st a)
    have h2 := push_len st a
    simp only [List.foldl_cons, List.length_cons]; omega
theorem net_len (w : W) : (net w).length ≤ w.length := by
  have := foldl_len w []
  simpa [net] using this
end FG
/-! Loops of doings as edges; what is left when places are made one; graphs numbered as they are come to are one. -/
namespace FG
abbrev Edge := Nat × Int × Nat
/-- the edges of a loop from here on, both ways, and the next new place -/
def loopE : Nat → Nat → W → List Edge × Nat
  | _, m, [] => ([], m)
  | h, m, [s] => ([(h, s, 0), (0, -s, h)], m)
  | h, m, s :: t :: r => let q := loopE m (m + 1) (t :: r); ((h, s, m) :: (m, -s, h) :: q.1, q.2)
def flowerE : Nat → List W → List Edge × Nat
  | m, [] => ([], m)
  | m, d :: ds => let q := loopE 0 m d; let z := flowerE q.2 ds; (q.1 ++ z.1, z.2)
def flower (D : List W) : List Edge := (flowerE 1 D).1

inductive Path (E : List Edge) : Nat → W → Nat → Prop
  | nil (p : Nat) : Path E p [] p
  | cons {p q r : Nat} {s : Int} {w : W} : (p, s, q) ∈ E → Path E q w r → Path E p (s :: w) r
theorem Path.append {E : List Edge} {p q r : Nat} {u v : W} (a : Path E p u q) (b : Path E q v r) : Path E p (u ++ v) r := by
  induction a with
  | nil => exact b
  | cons h _ ih => exact .cons h (ih b)
theorem Path.mono {E F : List Edge} (h : ∀ e ∈ E, e ∈ F) {p q : Nat} {w : W} (a : Path E p w q) : Path F p w q := by
  induction a with
  | nil => exact .nil _
  | cons e _ ih => exact .cons (h _ e) ih

theorem loopE_path : ∀ (d : W) (h m : Nat), d ≠ [] → Path (loopE h m d).1 h d 0
  | [], _, _, hd => absurd rfl hd
  | [s], h, m, _ => .cons (by simp [loopE]) (.nil 0)
  | s :: t :: r, h, m, _ => by
    refine .cons (q := m) (by simp [loopE]) ?_
    refine (loopE_path (t :: r) m (m + 1) (by simp)).mono fun e he => ?_
    simp only [loopE, List.mem_cons]
    exact .inr (.inr he)
theorem flowerE_path : ∀ (D : List W) (m : Nat) (d : W), d ∈ D → Path (flowerE m D).1 0 d 0
  | [], _, _, h => nomatch h
  | x :: D, m, d, h => by
    rcases List.mem_cons.mp h with rfl | h
    · by_cases hd : d = []
      · subst hd; exact .nil 0
      · exact (loopE_path d 0 m hd).mono fun e he => by simp only [flowerE, List.mem_append]; exact .inl he
    · exact (flowerE_path D _ d h).mono fun e he => by simp only [flowerE, List.mem_append]; exact .inr he
theorem loopE_inv : ∀ (d : W) (h m : Nat) (p : Nat) (s : Int) (q : Nat), (p, s, q) ∈ (loopE h m d).1 → (q, -s, p) ∈ (loopE h m d).1
  | [], _, _, _, _, _, e => by simp [loopE] at e
  | [a], h, m, p, s, q, e => by
    simp only [loopE, List.mem_cons, Prod.mk.injEq, List.not_mem_nil, or_false] at e ⊢
    rcases e with ⟨rfl, rfl, rfl⟩ | ⟨rfl, rfl, rfl⟩ <;> simp
  | a :: b :: r, h, m, p, s, q, e => by
    simp only [loopE, List.mem_cons, Prod.mk.injEq] at e ⊢
    rcases e with ⟨rfl, rfl, rfl⟩ | ⟨rfl, rfl, rfl⟩ | e
    · simp
    · simp
    · exact .inr (.inr (loopE_inv (b :: r) m (m + 1) p s q e))
theorem flowerE_inv : ∀ (D : List W) (m : Nat) (p : Nat) (s : Int) (q : Nat), (p, s, q) ∈ (flowerE m D).1 → (q, -s, p) ∈ (flowerE m D).1
  | [], _, _, _, _, e => by simp [flowerE] at e
  | d :: D, m, p, s, q, e => by
    simp only [flowerE, List.mem_append] at e ⊢
    rcases e with e | e
    · exact .inl (loopE_inv d 0 m p s q e)
    · exact .inr (flowerE_inv D _ p s q e)
theorem loopE_le : ∀ (d : W) (h m : Nat), m ≤ (loopE h m d).2
  | [], _, _ => Nat.le_refl _
  | [_], _, _ => Nat.le_refl _
  | _ :: t :: r, _, m => by
    have := loopE_le (t :: r) m (m + 1)
    simp only [loopE]; omega
theorem loopE_lt : ∀ (d : W) (h m : Nat), h < m → 0 < m → ∀ p s q, (p, s, q) ∈ (loopE h m d).1 → p < (loopE h m d).2 ∧ q < (loopE h m d).2
  | [], _, _, _, _, _, _, _, e => by simp [loopE] at e
  | [a], h, m, hh, hm, p, s, q, e => by
    simp only [loopE, List.mem_cons, Prod.mk.injEq, List.not_mem_nil, or_false] at e ⊢
    rcases e with ⟨rfl, rfl, rfl⟩ | ⟨rfl, rfl, rfl⟩ <;> omega
  | a :: b :: r, h, m, hh, hm, p, s, q, e => by
    have l := loopE_le (b :: r) m (m + 1)
    simp only [loopE, List.mem_cons, Prod.mk.injEq] at e ⊢
    rcases e with ⟨rfl, rfl, rfl⟩ | ⟨rfl, rfl, rfl⟩ | e
    · omega
    · omega
    · exact loopE_lt (b :: r) m (m + 1) (by omega) (by omega) p s q e
theorem flowerE_le : ∀ (D : List W) (m : Nat), m ≤ (flowerE m D).2
  | [], _ => Nat.le_refl _
  | d :: D, m => by
    have h1 := loopE_le d 0 m
    have h2 := flowerE_le D (loopE 0 m d).2
    simp only [flowerE]; omega
theorem flowerE_lt : ∀ (D : List W) (m : Nat), 0 < m → ∀ p s q, (p, s, q) ∈ (flowerE m D).1 → p < (flowerE m D).2 ∧ q < (flowerE m D).2
  | [], _, _, _, _, _, e => by simp [flowerE] at e
  | d :: D, m, hm, p, s, q, e => by
    have h1 := loopE_le d 0 m
    have h2 := flowerE_le D (loopE 0 m d).2
    simp only [flowerE, List.mem_append] at e ⊢
    rcases e with e | e
    · have := loopE_lt d 0 m hm hm p s q e
      omega
    · exact flowerE_lt D _ (by omega) p s q e

/-- each edge is one of a loop's, there or back -/
def Cov (E : List Edge) (D : List W) : Prop := ∀ p s q, (p, s, q) ∈ E → ∃ d ∈ D, ∃ u v : W,
  (d = u ++ s :: v ∧ Path E 0 u p ∧ Path E q v 0) ∨ (d = u ++ (-s) :: v ∧ Path E 0 u q ∧ Path E p v 0)
theorem loopE_cov : ∀ (d : W) (h m : Nat) (p : Nat) (s : Int) (q : Nat), (p, s, q) ∈ (loopE h m d).1 → ∃ u v : W,
    (d = u ++ s :: v ∧ Path (loopE h m d).1 h u p ∧ Path (loopE h m d).1 q v 0) ∨ (d = u ++ (-s) :: v ∧ Path (loopE h m d).1 h u q ∧ Path (loopE h m d).1 p v 0)
  | [], _, _, _, _, _, e => by simp [loopE] at e
  | [a], h, m, p, s, q, e => by
    simp only [loopE, List.mem_cons, Prod.mk.injEq, List.not_mem_nil, or_false] at e
    rcases e with ⟨rfl, rfl, rfl⟩ | ⟨rfl, rfl, rfl⟩
    · exact ⟨[], [], .inl ⟨rfl, .nil _, .nil _⟩⟩
    · exact ⟨[], [], .inr ⟨by simp, .nil _, .nil _⟩⟩
  | a :: b :: r, h, m, p, s, q, e => by
    have sub : ∀ x ∈ (loopE m (m + 1) (b :: r)).1, x ∈ (loopE h m (a :: b :: r)).1 := fun x hx => by
      simp only [loopE, List.mem_cons]; exact .inr (.inr hx)
    have pt : Path (loopE h m (a :: b :: r)).1 m (b :: r) 0 := (loopE_path (b :: r) m (m + 1) (by simp)).mono sub
    have st : (h, a, m) ∈ (loopE h m (a :: b :: r)).1 := by simp [loopE]
    have e' := e
    simp only [loopE, List.mem_cons, Prod.mk.injEq] at e'
    rcases e' with ⟨rfl, rfl, rfl⟩ | ⟨rfl, rfl, rfl⟩ | e'
    · exact ⟨[], b :: r, .inl ⟨rfl, .nil _, pt⟩⟩
    · exact ⟨[], b :: r, .inr ⟨by simp, .nil _, pt⟩⟩
    · obtain ⟨u, v, h1 | h1⟩ := loopE_cov (b :: r) m (m + 1) p s q e'
      · exact ⟨a :: u, v, .inl ⟨by rw [h1.1]; rfl, .cons st (h1.2.1.mono sub), h1.2.2.mono sub⟩⟩
      · exact ⟨a :: u, v, .inr ⟨by rw [h1.1]; rfl, .cons st (h1.2.1.mono sub), h1.2.2.mono sub⟩⟩
theorem flowerE_cov : ∀ (D : List W) (m : Nat), Cov (flowerE m D).1 D
  | [], _, _, _, _, e => by simp [flowerE] at e
  | d :: D, m, p, s, q, e => by
    have s1 : ∀ x ∈ (loopE 0 m d).1, x ∈ (flowerE m (d :: D)).1 := fun x hx => by simp only [flowerE, List.mem_append]; exact .inl hx
    have s2 : ∀ x ∈ (flowerE (loopE 0 m d).2 D).1, x ∈ (flowerE m (d :: D)).1 := fun x hx => by simp only [flowerE, List.mem_append]; exact .inr hx
    have e' := e
    simp only [flowerE, List.mem_append] at e'
    rcases e' with e' | e'
    · obtain ⟨u, v, h1 | h1⟩ := loopE_cov d 0 m p s q e'
      · exact ⟨d, by simp, u, v, .inl ⟨h1.1, h1.2.1.mono s1, h1.2.2.mono s1⟩⟩
      · exact ⟨d, by simp, u, v, .inr ⟨h1.1, h1.2.1.mono s1, h1.2.2.mono s1⟩⟩
    · obtain ⟨d', hd, u, v, h1 | h1⟩ := flowerE_cov D _ p s q e'
      · exact ⟨d', by simp [hd], u, v, .inl ⟨h1.1, h1.2.1.mono s2, h1.2.2.mono s2⟩⟩
      · exact ⟨d', by simp [hd], u, v, .inr ⟨h1.1, h1.2.1.mono s2, h1.2.2.mono s2⟩⟩

/-! ### places told by states: where all doings fix home -/
section
variable {δ : Dl}
theorem loopE_map (hi : InvD δ) : ∀ (d : W) (h m : Nat) (σ : Nat → Cs), h < m → 0 < m → σ 0 = (0, []) → (∀ p, Val δ (σ p)) → actW δ (σ h) d = (0, []) → d ≠ [] →
    ∃ σ' : Nat → Cs, (∀ x, x < m → σ' x = σ x) ∧ (∀ p, Val δ (σ' p)) ∧ ∀ p s q, (p, s, q) ∈ (loopE h m d).1 → σ' q = act δ (σ' p) s
  | [], _, _, _, _, _, _, _, _, hd => absurd rfl hd
  | [a], h, m, σ, hh, hm, h0, hv, he, _ => by
    refine ⟨σ, fun _ _ => rfl, hv, fun p s q e => ?_⟩
    simp only [loopE, List.mem_cons, Prod.mk.injEq, List.not_mem_nil, or_false] at e
    have he' : act δ (σ h) a = (0, []) := he
    rcases e with ⟨rfl, rfl, rfl⟩ | ⟨rfl, rfl, rfl⟩
    · rw [h0, he']
    · rw [h0, ← he', act_undo hi (hv _)]
  | a :: b :: r, h, m, σ, hh, hm, h0, hv, he, _ => by
    have hmh : ¬ h = m := by omega
    let σ1 : Nat → Cs := fun x => if x = m then act δ (σ h) a else σ x
    have e1 : σ1 m = act δ (σ h) a := if_pos rfl
    have e2 : ∀ x, x ≠ m → σ1 x = σ x := fun x hx => if_neg hx
    obtain ⟨σ', k1, k2, k3⟩ := loopE_map hi (b :: r) m (m + 1) σ1 (by omega) (by omega) (by rw [e2 _ (by omega)]; exact h0) (fun p => by
      by_cases hp : p = m
      · subst hp; rw [e1]; exact (hv h).act
      · rw [e2 _ hp]; exact hv p) (by rw [e1]; exact he) (by simp)
    refine ⟨σ', fun x hx => by rw [k1 x (by omega), e2 x (by omega)], k2, fun p s q e => ?_⟩
    have em : σ' m = act δ (σ h) a := by rw [k1 m (by omega), e1]
    have eh : σ' h = σ h := by rw [k1 h (by omega), e2 h hmh]
    simp only [loopE, List.mem_cons, Prod.mk.injEq] at e
    rcases e with ⟨rfl, rfl, rfl⟩ | ⟨rfl, rfl, rfl⟩ | e
    · rw [em, eh]
    · rw [em, eh, act_undo hi (hv _)]
    · exact k3 p s q e
theorem flowerE_map (hi : InvD δ) : ∀ (D : List W) (m : Nat) (σ : Nat → Cs), 0 < m → σ 0 = (0, []) → (∀ p, Val δ (σ p)) → (∀ d ∈ D, Fix δ d) →
    ∃ σ' : Nat → Cs, (∀ x, x < m → σ' x = σ x) ∧ (∀ p, Val δ (σ' p)) ∧ ∀ p s q, (p, s, q) ∈ (flowerE m D).1 → σ' q = act δ (σ' p) s
  | [], _, σ, _, _, hv, _ => ⟨σ, fun _ _ => rfl, hv, fun _ _ _ e => by simp [flowerE] at e⟩
  | d :: D, m, σ, hm, h0, hv, hf => by
    have hle := loopE_le d 0 m
    obtain ⟨σ1, a1, a2, a3⟩ : ∃ σ' : Nat → Cs, (∀ x, x < m → σ' x = σ x) ∧ (∀ p, Val δ (σ' p)) ∧ ∀ p s q, (p, s, q) ∈ (loopE 0 m d).1 → σ' q = act δ (σ' p) s := by
      by_cases hd : d = []
      · subst hd
        exact ⟨σ, fun _ _ => rfl, hv, fun _ _ _ e => by simp [loopE] at e⟩
      · exact loopE_map hi d 0 m σ hm hm h0 hv (by rw [h0]; exact hf d (by simp)) hd
    obtain ⟨σ2, b1, b2, b3⟩ := flowerE_map hi D (loopE 0 m d).2 σ1 (by omega) (by rw [a1 0 hm]; exact h0) a2 fun x hx => hf x (by simp [hx])
    refine ⟨σ2, fun x hx => by rw [b1 x (by omega), a1 x hx], b2, fun p s q e => ?_⟩
    simp only [flowerE, List.mem_append] at e
    rcases e with e | e
    · obtain ⟨l1, l2⟩ := loopE_lt d 0 m hm hm p s q e
      rw [b1 q l2, b1 p l1]
      exact a3 p s q e
    · exact b3 p s q e
theorem flower_map (hi : InvD δ) {D : List W} (hf : ∀ d ∈ D, Fix δ d) :
    ∃ σ : Nat → Cs, σ 0 = (0, []) ∧ (∀ p, Val δ (σ p)) ∧ ∀ p s q, (p, s, q) ∈ flower D → σ q = act δ (σ p) s := by
  obtain ⟨σ, h1, h2, h3⟩ := flowerE_map hi D 1 (fun _ => (0, [])) (by omega) rfl (fun _ => Val.base 0) hf
  exact ⟨σ, h1 0 (by omega), h2, h3⟩
end

/-! ### graphs of doings -/
/-- a relation that folding can't leave -/
structure Cong (E : List Edge) (R : Nat → Nat → Prop) : Prop where
  refl : ∀ p, R p p
  symm : ∀ {p q}, R p q → R q p
  trans : ∀ {p q r}, R p q → R q r → R p r
  next : ∀ {p p' s q q'}, (p, s, q) ∈ E → (p', s, q') ∈ E → R p p' → R q q'
/-- a numbered graph of some doings: n places, home 0, where signs lead; m tells each loop's place's number -/
structure GraphOf (D : List W) (n : Nat) (δ : Dl) (m : Nat → Nat) : Prop where
  home : m 0 = 0
  edge : ∀ {p s q}, (p, s, q) ∈ flower D → δ (m p) s = some (m q)
  back : ∀ {k s j}, k < n → δ k s = some j → ∃ p q, (p, s, q) ∈ flower D ∧ m p = k ∧ m q = j
  out : ∀ {k s}, ¬ k < n → δ k s = none
  all : ∀ {k}, k < n → k = 0 ∨ ∃ p s q, (p, s, q) ∈ flower D ∧ m p = k
  least : ∀ {R}, Cong (flower D) R → ∀ p q, (p = 0 ∨ ∃ s x, (p, s, x) ∈ flower D) → (q = 0 ∨ ∃ s x, (q, s, x) ∈ flower D) → m p = m q → R p q

section
variable {D D2 : List W} {n n2 : Nat} {δ δ2 : Dl} {m m2 : Nat → Nat}
theorem GraphOf.inv (g : GraphOf D n δ m) : InvD δ := fun p a q h => by
  by_cases hp : p < n
  · obtain ⟨x, y, e, rfl, rfl⟩ := g.back hp h
    exact g.edge (flowerE_inv D 1 _ _ _ e)
  · rw [g.out hp] at h; cases h
theorem GraphOf.path (g : GraphOf D n δ m) {p q : Nat} {w : W} (h : Path (flower D) p w q) : readOn δ (m p) w = (m q, []) := by
  induction h with
  | nil => rfl
  | cons e _ ih => simp [readOn, g.edge e, ih]
theorem GraphOf.reads (g : GraphOf D n δ m) {d : W} (h : d ∈ D) : readOn δ 0 d = (0, []) := by
  have := g.path (flowerE_path D 1 d h)
  rwa [g.home] at this
theorem GraphOf.fix (g : GraphOf D n δ m) {d : W} (h : d ∈ D) (hr : Red d) : Fix δ d := by
  unfold Fix
  rw [actW_read d 0 hr]
  exact g.reads h
/-- each place is come to by a doing's beginning -/
theorem GraphOf.come (g : GraphOf D n δ m) {p : Nat} (h : p = 0 ∨ ∃ s x, (p, s, x) ∈ flower D) : ∃ u v : W, Path (flower D) 0 u p ∧ (u = [] ∧ p = 0 ∨ u ++ v ∈ D) := by
  rcases h with rfl | ⟨s, x, e⟩
  · exact ⟨[], [], .nil 0, .inl ⟨rfl, rfl⟩⟩
  · obtain ⟨d, hd, u, v, ⟨rfl, h1, h2⟩ | ⟨rfl, h1, h2⟩⟩ := flowerE_cov D 1 p s x e
    · exact ⟨u, s :: v, h1, .inr hd⟩
    · have e2 := flowerE_inv D 1 _ _ _ e
      exact ⟨u ++ [-s], v, h1.append (.cons e2 (.nil _)), .inr (by simpa using hd)⟩
/-- THE MAP from one graph's places to the other's, by ways -/
theorem GraphOf.to (g : GraphOf D n δ m) (g2 : GraphOf D2 n2 δ2 m2) (hr : ∀ d ∈ D, Red d) (hf : ∀ d ∈ D, Fix δ2 d) :
    ∀ (u : W) {k : Nat}, readOn δ 0 u = (k, []) → ∃ j, readOn δ2 0 u = (j, []) ∧ ∀ {u' : W}, readOn δ 0 u' = (k, []) → readOn δ2 0 u' = (j, []) := by
  obtain ⟨σ, s0, sv, se⟩ := flower_map g2.inv hf
  have cong : Cong (flower D) (fun p q => σ p = σ q) := ⟨fun _ => rfl, fun h => h.symm, fun h h' => h.trans h', fun {p p' s q q'} e e' h => by rw [se _ _ _ e, se _ _ _ e', h]⟩
  -- along a path
  have along : ∀ {p q : Nat} {w : W}, Path (flower D) p w q → σ q = actW δ2 (σ p) w := by
    intro p q w h
    induction h with
    | nil => rfl
    | cons e _ ih => rw [ih, se _ _ _ e]; rfl
  have flat : ∀ p, (p = 0 ∨ ∃ s x, (p, s, x) ∈ flower D) → ∃ j, σ p = (j, []) := by
    intro p hp
    obtain ⟨u, v, h1, h2⟩ := g.come hp
    rcases h2 with ⟨_, rfl⟩ | h2
    · exact ⟨0, s0⟩
    · have f := hf _ h2
      unfold Fix at f
      rw [actW_read _ _ (hr _ h2)] at f
      obtain ⟨x, hx, _⟩ := read_prefix u v f
      refine ⟨x, ?_⟩
      rw [along h1, s0, actW_read _ _ (Red.append_left (hr _ h2))]
      exact hx
  have step : ∀ (u : W) {p k : Nat}, (p = 0 ∨ ∃ s x, (p, s, x) ∈ flower D) → ∀ {j : Nat}, σ p = (j, []) → readOn δ (m p) u = (k, []) →
      ∃ q, (q = 0 ∨ ∃ s x, (q, s, x) ∈ flower D) ∧ m q = k ∧ ∃ i, σ q = (i, []) ∧ readOn δ2 j u = (i, []) := by
    intro u
    induction u with
    | nil =>
      intro p k hp j hj h
      have : m p = k := by simpa [readOn] using h
      exact ⟨p, hp, this, j, hj, rfl⟩
    | cons a u ih =>
      intro p k hp j hj h
      cases e : δ (m p) a with
      | none => simp [readOn, e] at h
      | some x =>
        have h' : readOn δ x u = (k, []) := by simpa [readOn, e] using h
        have hn : m p < n := by
          by_cases hn : m p < n
          · exact hn
          · rw [g.out hn] at e; cases e
        obtain ⟨p', q', ed, e1, rfl⟩ := g.back hn e
        have sp : σ p' = (j, []) := by
          rw [← hj]
          exact g.least cong p' p (.inr ⟨_, _, ed⟩) hp e1
        have hq' : (q' = 0 ∨ ∃ s x, (q', s, x) ∈ flower D) := .inr ⟨_, _, flowerE_inv D 1 _ _ _ ed⟩
        obtain ⟨i, hi⟩ := flat q' hq'
        obtain ⟨q, hq, hk, i', hi', hr'⟩ := ih hq' hi h'
        refine ⟨q, hq, hk, i', hi', ?_⟩
        have ea := se _ _ _ ed
        rw [sp, hi] at ea
        cases e2 : δ2 j a with
        | none => simp [act, e2] at ea
        | some y =>
          simp only [act, if_true, e2, Prod.mk.injEq, and_true] at ea
          simp only [readOn, e2]
          rw [← ea]
          exact hr'
  intro u k h
  have h0 : readOn δ (m 0) u = (k, []) := by rw [g.home]; exact h
  obtain ⟨q, hq, hk, i, hi, hj⟩ := step u (.inl rfl) s0 h0
  refine ⟨i, hj, fun {u'} h' => ?_⟩
  have h0' : readOn δ (m 0) u' = (k, []) := by rw [g.home]; exact h'
  obtain ⟨q', hq', hk', i', hi', hj'⟩ := step u' (.inl rfl) s0 h0'
  have : σ q = σ q' := g.least cong q q' hq hq' (hk.trans hk'.symm)
  rw [hi, hi'] at this
  cases this
  exact hj'
end
end FG
/-! Graphs numbered as they are come to are one; from folded places to such graphs. -/
namespace FG
def signs (acts : Nat) : List Int := (List.range acts).flatMap fun a => [((a : Nat) : Int) + 1, -(((a : Nat) : Int) + 1)]
theorem mem_signs {acts : Nat} {s : Int} : s ∈ signs acts ↔ 0 < s.natAbs ∧ s.natAbs ≤ acts := by
  unfold signs
  rw [List.mem_flatMap]
  constructor
  · rintro ⟨a, ha, h⟩
    have := List.mem_range.mp ha
    simp only [List.mem_cons, List.not_mem_nil, or_false] at h
    omega
  · rintro ⟨h1, h2⟩
    refine ⟨s.natAbs - 1, List.mem_range.mpr (by omega), ?_⟩
    simp only [List.mem_cons, List.not_mem_nil, or_false]
    omega
/-- the next number, going through a row of numbers: one that is new is the next one -/
def sc (m : Nat) : List (Option Nat) → Option Nat
  | [] => some m
  | none :: r => sc m r
  | some v :: r => if v < m then sc m r else if v = m then sc (m + 1) r else none
def scR (k m : Nat) : List (List (Option Nat)) → Option Nat
  | [] => some m
  | row :: rest => if k < m then (sc m row).bind fun m' => scR (k + 1) m' rest else none
theorem sc_le : ∀ (r : List (Option Nat)) {m a : Nat}, sc m r = some a → m ≤ a
  | [], m, a, h => by simp [sc] at h; omega
  | none :: r, m, a, h => sc_le r (by simpa [sc] using h)
  | some v :: r, m, a, h => by
    by_cases h1 : v < m
    · exact sc_le r (by simpa [sc, h1] using h)
    · by_cases h2 : v = m
      · have := sc_le r (m := m + 1) (a := a) (by simpa [sc, h2] using h)
        omega
      · simp [sc, h1, h2] at h
theorem scR_le : ∀ (R : List (List (Option Nat))) {k m a : Nat}, scR k m R = some a → m ≤ a
  | [], k, m, a, h => by simp [scR] at h; omega
  | row :: R, k, m, a, h => by
    by_cases h1 : k < m
    · simp only [scR, h1, if_true] at h
      cases e : sc m row with
      | none => simp [e] at h
      | some b =>
        have h' : scR (k + 1) b R = some a := by simpa [e] using h
        have := sc_le row e
        have := scR_le R h'
        omega
    · simp [scR, h1] at h
theorem scR_append : ∀ (R S : List (List (Option Nat))) {k m : Nat}, scR k m (R ++ S) = (scR k m R).bind fun a => scR (k + R.length) a S
  | [], S, k, m => by simp [scR]
  | row :: R, S, k, m => by
    simp only [List.cons_append, scR]
    by_cases h1 : k < m
    · simp only [h1, if_true]
      cases e : sc m row with
      | none => simp
      | some b =>
        simp only [Option.bind_some]
        rw [scR_append R S]
        have : k + 1 + R.length = k + (row :: R).length := by simp; omega
        rw [this]
    · simp [h1]
def rowsOf (acts : Nat) (n : Nat) (δ : Dl) : List (List (Option Nat)) := (List.range n).map fun k => (signs acts).map (δ k)
/-- numbered as they are come to -/
def Num (acts n : Nat) (δ : Dl) : Prop := scR 0 1 (rowsOf acts n δ) = some n

section
variable {Ph : Nat → Nat → Prop}
theorem sc_one (inj1 : ∀ {i j j'}, Ph i j → Ph i j' → j = j') (inj2 : ∀ {i i' j}, Ph i j → Ph i' j → i = i') :
    ∀ (L1 L2 : List (Option Nat)) {m a b : Nat}, L1.length = L2.length → (∀ (t : Nat) (x y : Option Nat), L1[t]? = some x → L2[t]? = some y → (x = none ∧ y = none) ∨ ∃ i j, x = some i ∧ y = some j ∧ Ph i j) →
      (∀ i, i < m → Ph i i) → sc m L1 = some a → sc m L2 = some b → a = b ∧ L1 = L2 ∧ ∀ i, i < a → Ph i i
  | [], [], m, a, b, _, _, hp, h1, h2 => by
    simp only [sc, Option.some.injEq] at h1 h2
    subst h1; subst h2
    exact ⟨rfl, rfl, hp⟩
  | [], _ :: _, _, _, _, hl, _, _, _, _ => by simp at hl
  | _ :: _, [], _, _, _, hl, _, _, _, _ => by simp at hl
  | x :: L1, y :: L2, m, a, b, hl, hr, hp, h1, h2 => by
    have hl' : L1.length = L2.length := by simpa using hl
    have hr' : ∀ (t : Nat) (x y : Option Nat), L1[t]? = some x → L2[t]? = some y → (x = none ∧ y = none) ∨ ∃ i j, x = some i ∧ y = some j ∧ Ph i j := fun t x y e1 e2 => hr (t + 1) x y (by simpa using e1) (by simpa using e2)
    rcases hr 0 x y rfl rfl with ⟨rfl, rfl⟩ | ⟨i, j, rfl, rfl, h⟩
    · obtain ⟨e1, e2, e3⟩ := sc_one inj1 inj2 L1 L2 hl' hr' hp (by simpa [sc] using h1) (by simpa [sc] using h2)
      exact ⟨e1, by rw [e2], e3⟩
    · by_cases hi : i < m
      · have hij : j = i := inj1 h (hp i hi)
        subst hij
        obtain ⟨e1, e2, e3⟩ := sc_one inj1 inj2 L1 L2 hl' hr' hp (by simpa [sc, hi] using h1) (by simpa [sc, hi] using h2)
        exact ⟨e1, by rw [e2], e3⟩
      · have him : i = m := by
          by_cases q : i = m
          · exact q
          · simp [sc, hi, q] at h1
        subst him
        have hj : ¬ j < i := fun q => by
          have e := inj2 h (hp j q)
          omega
        have hji : j = i := by
          by_cases q : j = i
          · exact q
          · simp [sc, hj, q] at h2
        subst hji
        obtain ⟨e1, e2, e3⟩ := sc_one inj1 inj2 L1 L2 hl' hr' (m := j + 1) (a := a) (b := b) (fun t ht => by
          by_cases q : t = j
          · subst q; exact h
          · exact hp t (by omega)) (by simpa [sc] using h1) (by simpa [sc] using h2)
        exact ⟨e1, by rw [e2], e3⟩
end

section
variable {D D2 : List W} {n n2 acts : Nat} {δ δ2 : Dl} {m m2 : Nat → Nat}
theorem GraphOf.reach (g : GraphOf D n δ m) {k : Nat} (h : k < n) : ∃ u, readOn δ 0 u = (k, []) := by
  rcases g.all h with rfl | ⟨p, s, q, e, rfl⟩
  · exact ⟨[], rfl⟩
  · obtain ⟨u, v, h1, _⟩ := g.come (p := p) (.inr ⟨s, q, e⟩)
    have := g.path h1
    rw [g.home] at this
    exact ⟨u, this⟩
/-- UNIQUE: two graphs of which each one's doings fix the other one's home -/
theorem graph_one (g : GraphOf D n δ m) (g2 : GraphOf D2 n2 δ2 m2) (hr : ∀ d ∈ D, Red d) (hr2 : ∀ d ∈ D2, Red d) (hf : ∀ d ∈ D, Fix δ2 d) (hf2 : ∀ d ∈ D2, Fix δ d)
    (h0 : 0 < n) (h02 : 0 < n2) (c : Num acts n δ) (c2 : Num acts n2 δ2) : n = n2 ∧ ∀ k, k < n → ∀ s ∈ signs acts, δ k s = δ2 k s := by
  let Ph : Nat → Nat → Prop := fun i j => ∃ u, readOn δ 0 u = (i, []) ∧ readOn δ2 0 u = (j, [])
  have inj1 : ∀ {i j j'}, Ph i j → Ph i j' → j = j' := fun {i j j'} ⟨u, a1, a2⟩ ⟨u', b1, b2⟩ => by
    obtain ⟨x, _, hx⟩ := g.to g2 hr hf u a1
    have e1 := hx a1
    have e2 := hx b1
    rw [a2] at e1; rw [b2] at e2
    cases e1; cases e2; rfl
  have inj2 : ∀ {i i' j}, Ph i j → Ph i' j → i = i' := fun {i i' j} ⟨u, a1, a2⟩ ⟨u', b1, b2⟩ => by
    obtain ⟨x, _, hx⟩ := g2.to g hr2 hf2 u a2
    have e1 := hx a2
    have e2 := hx b2
    rw [a1] at e1; rw [b1] at e2
    cases e1; cases e2; rfl
  have rowEq : ∀ {k}, Ph k k → ∀ (t : Nat) (x y : Option Nat), ((signs acts).map (δ k))[t]? = some x → ((signs acts).map (δ2 k))[t]? = some y → (x = none ∧ y = none) ∨ ∃ i j, x = some i ∧ y = some j ∧ Ph i j := by
    rintro k ⟨u, a1, a2⟩ t x y e1 e2
    rw [List.getElem?_map] at e1 e2
    cases es : (signs acts)[t]? with
    | none => rw [es] at e1; cases e1
    | some s =>
      rw [es] at e1 e2
      have e1 : δ k s = x := by simpa using e1
      have e2 : δ2 k s = y := by simpa using e2
      have r1 : readOn δ 0 (u ++ [s]) = readOn δ k [s] := read_append u [s] a1
      have r2 : readOn δ2 0 (u ++ [s]) = readOn δ2 k [s] := read_append u [s] a2
      cases x with
      | some i =>
        have r1' : readOn δ 0 (u ++ [s]) = (i, []) := by rw [r1]; simp [readOn, e1]
        obtain ⟨j, hj, _⟩ := g.to g2 hr hf _ r1'
        cases y with
        | some j' => exact .inr ⟨i, j', rfl, rfl, _, r1', by rw [r2]; simp [readOn, e2]⟩
        | none =>
          rw [r2] at hj
          simp [readOn, e2] at hj
      | none =>
        cases y with
        | none => exact .inl ⟨rfl, rfl⟩
        | some j =>
          have r2' : readOn δ2 0 (u ++ [s]) = (j, []) := by rw [r2]; simp [readOn, e2]
          obtain ⟨i, hi, _⟩ := g2.to g hr2 hf2 _ r2'
          rw [r1] at hi
          simp [readOn, e1] at hi
  have main : ∀ (r : Nat) (k m' : Nat), n - k = r → m' ≤ n → m' ≤ n2 → k ≤ n → k ≤ n2 → (∀ i, i < m' → Ph i i) →
      scR k m' ((List.range' k (n - k)).map fun k => (signs acts).map (δ k)) = some n → scR k m' ((List.range' k (n2 - k)).map fun k => (signs acts).map (δ2 k)) = some n2 →
      n = n2 ∧ ∀ i, k ≤ i → i < n → (signs acts).map (δ i) = (signs acts).map (δ2 i) := by
    intro r
    induction r with
    | zero =>
      intro k m' hk hm hm2 hkn hkn2 hp s1 s2
      have ek : k = n := by omega
      subst ek
      rw [Nat.sub_self] at s1
      simp only [List.range'_zero, List.map_nil, scR, Option.some.injEq] at s1
      subst s1
      by_cases q : m' < n2
      · obtain ⟨l, hl⟩ : ∃ l, n2 - m' = l + 1 := ⟨n2 - m' - 1, by omega⟩
        rw [hl, List.range'_succ, List.map_cons] at s2
        simp [scR] at s2
      · exact ⟨by omega, fun i h1 h2 => absurd h2 (by omega)⟩
    | succ r ih =>
      intro k m' hk hm hm2 hkn hkn2 hp s1 s2
      have hlt : k < n := by omega
      have e1 : n - k = (n - (k + 1)) + 1 := by omega
      rw [e1, List.range'_succ, List.map_cons] at s1
      have hkm : k < m' := by
        by_cases q : k < m'
        · exact q
        · simp [scR, q] at s1
      have hlt2 : k < n2 := by omega
      have e2 : n2 - k = (n2 - (k + 1)) + 1 := by omega
      rw [e2, List.range'_succ, List.map_cons] at s2
      simp only [scR, hkm, if_true] at s1 s2
      cases q1 : sc m' ((signs acts).map (δ k)) with
      | none => rw [q1] at s1; cases s1
      | some a =>
        cases q2 : sc m' ((signs acts).map (δ2 k)) with
        | none => rw [q2] at s2; cases s2
        | some b =>
          rw [q1] at s1; rw [q2] at s2
          obtain ⟨z1, z2, z3⟩ := sc_one (Ph := Ph) inj1 inj2 _ _ (by simp) (rowEq (hp k hkm)) hp q1 q2
          subst z1
          have s1 : scR (k + 1) a _ = some n := s1
          have s2 : scR (k + 1) a _ = some n2 := s2
          obtain ⟨en, er⟩ := ih (k + 1) a (by omega) (scR_le _ s1) (scR_le _ s2) (by omega) (by omega) z3 s1 s2
          refine ⟨en, fun i h1 h2 => ?_⟩
          by_cases q : i = k
          · subst q; exact z2
          · exact er i (by omega) h2
  have c' := c; have c2' := c2
  unfold Num rowsOf at c' c2'
  rw [List.range_eq_range'] at c' c2'
  obtain ⟨en, er⟩ := main n 0 1 (by omega) (by omega) (by omega) (by omega) (by omega) (fun i hi => by
    have : i = 0 := by omega
    subst this
    exact ⟨[], rfl, rfl⟩) c' c2'
  refine ⟨en, fun k hk s hs => ?_⟩
  have := er k (Nat.zero_le _) hk
  exact List.map_inj_left.mp this s hs
end

/-! ### from folded places -/
structure Quot (E : List Edge) (μ : Nat → Nat) (δ : Dl) : Prop where
  zero : μ 0 = 0
  idem : ∀ p, μ (μ p) = μ p
  edge : ∀ {p s q}, (p, s, q) ∈ E → δ (μ p) s = some (μ q)
  back : ∀ {P s Q}, μ P = P → δ P s = some Q → ∃ p q, (p, s, q) ∈ E ∧ μ p = P ∧ μ q = Q
  least : ∀ {R}, Cong E R → ∀ p q, μ p = μ q → R p q

/-- the places come to: a row of signs from a place on -/
def extRow (δ : Dl) (P : Nat) : List Int → List Nat → List Nat
  | [], line => line
  | s :: sg, line => extRow δ P sg (match δ P s with | some Q => if Q ∈ line then line else line ++ [Q] | none => line)
inductive Bfs (δ : Dl) (sg : List Int) : Nat → List Nat → Prop
  | start : Bfs δ sg 0 [0]
  | row {k : Nat} {line : List Nat} {P : Nat} : Bfs δ sg k line → line[k]? = some P → Bfs δ sg (k + 1) (extRow δ P sg line)

theorem extRow_app (δ : Dl) (P : Nat) : ∀ (sg : List Int) (line : List Nat), ∃ more, extRow δ P sg line = line ++ more
  | [], line => ⟨[], by simp [extRow]⟩
  | s :: sg, line => by
    unfold extRow
    cases e : δ P s with
    | none => exact extRow_app δ P sg line
    | some Q =>
      by_cases h : Q ∈ line
      · simp only [h, if_true]; exact extRow_app δ P sg line
      · simp only [h, if_false]
        obtain ⟨more, hm⟩ := extRow_app δ P sg (line ++ [Q])
        exact ⟨Q :: more, by rw [hm]; simp⟩
theorem extRow_nodup (δ : Dl) (P : Nat) : ∀ (sg : List Int) (line : List Nat), line.Nodup → (extRow δ P sg line).Nodup
  | [], line, h => h
  | s :: sg, line, h => by
    unfold extRow
    cases e : δ P s with
    | none => exact extRow_nodup δ P sg line h
    | some Q =>
      by_cases hq : Q ∈ line
      · simp only [hq, if_true]; exact extRow_nodup δ P sg line h
      · simp only [hq, if_false]
        refine extRow_nodup δ P sg _ ?_
        rw [List.nodup_append]
        exact ⟨h, by simp, fun a ha b hb => by simp at hb; subst hb; exact fun z => hq (z ▸ ha)⟩
theorem extRow_mem (δ : Dl) (P : Nat) : ∀ (sg : List Int) (line : List Nat) (s : Int) (Q : Nat), s ∈ sg → δ P s = some Q → Q ∈ extRow δ P sg line
  | s' :: sg, line, s, Q, hs, h => by
    unfold extRow
    rcases List.mem_cons.mp hs with rfl | hs
    · rw [h]
      by_cases hq : Q ∈ line
      · simp only [hq, if_true]
        obtain ⟨more, hm⟩ := extRow_app δ P sg line
        rw [hm]; simp [hq]
      · simp only [hq, if_false]
        obtain ⟨more, hm⟩ := extRow_app δ P sg (line ++ [Q])
        rw [hm]; simp
    · exact extRow_mem δ P sg _ s Q hs h
theorem extRow_from (δ : Dl) (P : Nat) : ∀ (sg : List Int) (line : List Nat) (Q : Nat), Q ∈ extRow δ P sg line → Q ∈ line ∨ ∃ s ∈ sg, δ P s = some Q
  | [], line, Q, h => .inl h
  | s :: sg, line, Q, h => by
    unfold extRow at h
    cases e : δ P s with
    | none =>
      rw [e] at h
      rcases extRow_from δ P sg line Q h with h | ⟨s', hs, h⟩
      · exact .inl h
      · exact .inr ⟨s', by simp [hs], h⟩
    | some Q' =>
      rw [e] at h
      by_cases hq : Q' ∈ line
      · simp only [hq, if_true] at h
        rcases extRow_from δ P sg line Q h with h | ⟨s', hs, h⟩
        · exact .inl h
        · exact .inr ⟨s', by simp [hs], h⟩
      · simp only [hq, if_false] at h
        rcases extRow_from δ P sg _ Q h with h | ⟨s', hs, h⟩
        · rcases List.mem_append.mp h with h | h
          · exact .inl h
          · simp at h
            subst h
            exact .inr ⟨s, by simp, e⟩
        · exact .inr ⟨s', by simp [hs], h⟩
theorem idxOf_ext {line more : List Nat} {Q : Nat} (h : Q ∈ line) : (line ++ more).idxOf Q = line.idxOf Q := by
  rw [List.idxOf_append, if_pos h]
theorem sc_ext (δ : Dl) (P : Nat) : ∀ (sg : List Int) (line more : List Nat), line.Nodup →
    sc line.length (sg.map fun s => (δ P s).map ((extRow δ P sg line ++ more).idxOf ·)) = some (extRow δ P sg line).length
  | [], line, more, _ => by simp [sc, extRow]
  | s :: sg, line, more, hn => by
    have ih := sc_ext δ P sg
    unfold extRow
    simp only [List.map_cons]
    cases e : δ P s with
    | none => simp only [Option.map_none, sc]; exact ih line more hn
    | some Q =>
      by_cases hq : Q ∈ line
      · simp only [hq, if_true, Option.map_some]
        obtain ⟨mo, hm⟩ := extRow_app δ P sg line
        have hlt : ((extRow δ P sg line ++ more).idxOf Q) < line.length := by
          rw [hm, List.append_assoc, idxOf_ext hq]
          exact List.idxOf_lt_length_of_mem hq
        simp only [sc, hlt, if_true]
        exact ih line more hn
      · simp only [hq, if_false, Option.map_some]
        obtain ⟨mo, hm⟩ := extRow_app δ P sg (line ++ [Q])
        have hix : (extRow δ P sg (line ++ [Q]) ++ more).idxOf Q = line.length := by
          rw [hm, List.append_assoc, idxOf_ext (by simp), List.idxOf_append]
          simp [hq]
        simp only [sc, hix, Nat.lt_irrefl, if_false, if_true]
        have := ih (line ++ [Q]) more (by
          rw [List.nodup_append]
          exact ⟨hn, by simp, fun a ha b hb => by simp at hb; subst hb; exact fun z => hq (z ▸ ha)⟩)
        simpa using this

section
variable {δ : Dl} {sg : List Int} {E : List Edge} {μ : Nat → Nat}
theorem Bfs.nodup {k : Nat} {line : List Nat} (b : Bfs δ sg k line) : line.Nodup := by
  induction b with
  | start => simp
  | row _ _ ih => exact extRow_nodup _ _ _ _ ih
theorem Bfs.head {k : Nat} {line : List Nat} (b : Bfs δ sg k line) : line[0]? = some 0 := by
  induction b with
  | start => rfl
  | @row k line P b h ih =>
    obtain ⟨more, hm⟩ := extRow_app δ P sg line
    rw [hm]
    cases line with
    | nil => cases ih
    | cons a r => simpa using ih
theorem Bfs.le {k : Nat} {line : List Nat} (b : Bfs δ sg k line) : k ≤ line.length := by
  induction b with
  | start => simp
  | @row k line P b h ih =>
    obtain ⟨more, hm⟩ := extRow_app δ P sg line
    have := (List.getElem?_eq_some_iff.mp h).1
    rw [hm, List.length_append]; omega
theorem Bfs.closed {k : Nat} {line : List Nat} (b : Bfs δ sg k line) : ∀ i P s Q, i < k → line[i]? = some P → s ∈ sg → δ P s = some Q → Q ∈ line := by
  induction b with
  | start => intro i P s Q hi; omega
  | @row k line P b h ih =>
    intro i P' s Q hi hP hs hd
    obtain ⟨more, hm⟩ := extRow_app δ P sg line
    have hk := (List.getElem?_eq_some_iff.mp h).1
    have hP' : line[i]? = some P' := by
      rw [hm, List.getElem?_append_left (by omega)] at hP
      exact hP
    by_cases q : i = k
    · subst q
      rw [h] at hP'
      cases hP'
      exact extRow_mem δ P sg line s Q hs hd
    · have := ih i P' s Q (by omega) hP' hs hd
      rw [hm]; simp [this]
theorem Bfs.come {k : Nat} {line : List Nat} (b : Bfs δ sg k line) : ∀ Q ∈ line, Q = 0 ∨ ∃ P ∈ line, ∃ s ∈ sg, δ P s = some Q := by
  induction b with
  | start => intro Q h; simp at h; exact .inl h
  | @row k line P b h ih =>
    intro Q hQ
    obtain ⟨more, hm⟩ := extRow_app δ P sg line
    have sub : ∀ x ∈ line, x ∈ extRow δ P sg line := fun x hx => by rw [hm]; simp [hx]
    rcases extRow_from δ P sg line Q hQ with q | ⟨s, hs, q⟩
    · rcases ih Q q with q | ⟨P', hP', s, hs, q⟩
      · exact .inl q
      · exact .inr ⟨P', sub _ hP', s, hs, q⟩
    · exact .inr ⟨P, sub _ (List.mem_of_getElem? h), s, hs, q⟩
theorem Bfs.num {k : Nat} {line : List Nat} (b : Bfs δ sg k line) (more : List Nat) :
    scR 0 1 ((line.take k).map fun P => sg.map fun s => (δ P s).map ((line ++ more).idxOf ·)) = some line.length := by
  induction b generalizing more with
  | start => simp [scR]
  | @row k line P b h ih =>
    obtain ⟨mo, hm⟩ := extRow_app δ P sg line
    have hk := (List.getElem?_eq_some_iff.mp h).1
    have htake : (extRow δ P sg line).take (k + 1) = line.take k ++ [P] := by
      rw [hm, List.take_append_of_le_length (by omega), List.take_add_one, h]
      rfl
    rw [htake, List.map_append, scR_append]
    have hih := ih (mo ++ more)
    rw [← List.append_assoc, ← hm] at hih
    rw [hih]
    simp only [Option.bind_some, List.map_cons, List.map_nil, List.length_map, List.length_take, Nat.zero_add]
    have hmin : min k line.length = k := by omega
    rw [hmin]
    have hse := sc_ext δ P sg line more b.nodup
    simp only [scR, hk, if_true, hse]
    rfl
/-- THE GRAPH of folded places, numbered as they are come to -/
def numD (δ : Dl) (sg : List Int) (line : List Nat) : Dl := fun k s => if s ∈ sg then (match line[k]? with | some P => (δ P s).map (line.idxOf ·) | none => none) else none
theorem graph_of {D : List W} {acts : Nat} {line : List Nat} (hD : ∀ d ∈ D, ∀ s ∈ d, s ∈ signs acts) (q : Quot (flower D) μ δ) (b : Bfs δ (signs acts) line.length line) :
    GraphOf D line.length (numD δ (signs acts) line) (fun p => line.idxOf (μ p)) ∧ Num acts line.length (numD δ (signs acts) line) ∧ 0 < line.length := by
  have hn := b.nodup
  have h0 := b.head
  have hpos : 0 < line.length := (List.getElem?_eq_some_iff.mp h0).1
  have mem0 : 0 ∈ line := List.mem_of_getElem? h0
  have ix : ∀ {k P}, line[k]? = some P → line.idxOf P = k := fun {k P} h => by
    obtain ⟨hk, e⟩ := List.getElem?_eq_some_iff.mp h
    have := hn.idxOf_getElem k hk
    rw [e] at this
    exact this
  have getx : ∀ {P}, P ∈ line → line[line.idxOf P]? = some P := fun {P} h => by
    have hl := List.idxOf_lt_length_of_mem h
    rw [List.getElem?_eq_getElem hl, List.getElem_idxOf hl]
  have sg : ∀ {p s x}, (p, s, x) ∈ flower D → s ∈ signs acts := fun {p s x} e => by
    obtain ⟨d, hd, u, v, ⟨rfl, _⟩ | ⟨rfl, _⟩⟩ := flowerE_cov D 1 p s x e
    · exact hD _ hd s (by simp)
    · have := hD _ hd (-s) (by simp)
      rw [mem_signs] at this ⊢
      rwa [Int.natAbs_neg] at this
  have inl : ∀ {p w x}, Path (flower D) p w x → μ p ∈ line → μ x ∈ line := fun {p w x} h => by
    induction h with
    | nil => exact id
    | cons e _ ih =>
      intro hp
      obtain ⟨hk, e2⟩ := List.getElem?_eq_some_iff.mp (getx hp)
      exact ih (b.closed _ _ _ _ hk (getx hp) (sg e) (q.edge e))
  have mem : ∀ {p}, (p = 0 ∨ ∃ s x, (p, s, x) ∈ flower D) → μ p ∈ line := fun {p} h => by
    rcases h with rfl | ⟨s, x, e⟩
    · rw [q.zero]; exact mem0
    · obtain ⟨d, hd, u, v, ⟨_, h1, _⟩ | ⟨_, h1, _⟩⟩ := flowerE_cov D 1 p s x e
      · exact inl h1 (by rw [q.zero]; exact mem0)
      · have h2 := h1.append (.cons (flowerE_inv D 1 _ _ _ e) (.nil _))
        exact inl h2 (by rw [q.zero]; exact mem0)
  have root : ∀ P ∈ line, μ P = P := by
    have : ∀ {k : Nat} {line : List Nat}, Bfs δ (signs acts) k line → ∀ P ∈ line, μ P = P := by
      intro k line b
      induction b with
      | start => intro P h; simp at h; subst h; exact q.zero
      | row b h ih =>
        rename_i k line P
        intro Q hQ
        rcases extRow_from δ P _ line Q hQ with z | ⟨s, hs, z⟩
        · exact ih Q z
        · obtain ⟨p', q', _, _, rfl⟩ := q.back (ih P (List.mem_of_getElem? h)) z
          exact q.idem q'
    exact this b
  refine ⟨⟨?_, ?_, ?_, ?_, ?_, ?_⟩, ?_, hpos⟩
  · show line.idxOf (μ 0) = 0
    rw [q.zero]
    exact ix h0
  · intro p s x e
    have hp := mem (p := p) (.inr ⟨s, x, e⟩)
    show numD δ (signs acts) line (line.idxOf (μ p)) s = _
    unfold numD
    rw [if_pos (sg e), getx hp]
    simp [q.edge e]
  · intro k s j hk h
    unfold numD at h
    split at h
    · rename_i hs
      rw [List.getElem?_eq_getElem hk] at h
      have hP : line[k]? = some line[k] := List.getElem?_eq_getElem hk
      cases e : δ line[k] s with
      | none => simp [e] at h
      | some Q =>
        simp only [e, Option.map_some, Option.some.injEq] at h
        obtain ⟨p', q', ed, e1, e2⟩ := q.back (root _ (List.getElem_mem hk)) e
        refine ⟨p', q', ed, ?_, ?_⟩
        · show line.idxOf (μ p') = k
          rw [e1]; exact ix hP
        · show line.idxOf (μ q') = j
          rw [e2]; exact h
    · cases h
  · intro k s hk
    unfold numD
    have : line[k]? = none := List.getElem?_eq_none (by omega)
    rw [this]
    split <;> rfl
  · intro k hk
    have hP : line[k]? = some line[k] := List.getElem?_eq_getElem hk
    rcases b.come line[k] (List.getElem_mem hk) with z | ⟨P, hPm, s, hs, z⟩
    · left
      rw [z] at hP
      have h1 := ix hP
      have h2 := ix h0
      omega
    · right
      obtain ⟨p', q', ed, e1, e2⟩ := q.back (root P hPm) z
      refine ⟨q', -s, p', flowerE_inv D 1 _ _ _ ed, ?_⟩
      show line.idxOf (μ q') = k
      rw [e2]; exact ix hP
  · intro R hR p p' hp hp' h
    have h : line.idxOf (μ p) = line.idxOf (μ p') := h
    have e : μ p = μ p' := by
      have h1 := getx (mem hp)
      have h2 := getx (mem hp')
      rw [h, h2] at h1
      exact (Option.some.inj h1).symm
    exact q.least hR p p' e
  · have hb := b.num []
    rw [List.append_nil, List.take_length] at hb
    unfold Num rowsOf
    have : (List.range line.length).map (fun k => (signs acts).map (numD δ (signs acts) line k)) = line.map fun P => (signs acts).map fun s => (δ P s).map (line.idxOf ·) := by
      apply List.ext_getElem
      · simp
      · intro i h1 h2
        simp only [List.getElem_map, List.getElem_range]
        have hi : i < line.length := by simpa using h2
        apply List.map_congr_left
        intro s hs
        unfold numD
        rw [if_pos hs, List.getElem?_eq_getElem hi]
    rw [this]
    exact hb
end
end FG
/-! The folding of edges, place by place. -/
namespace FG
/-- each place's parent; each place's ends by signs; couples that wait -/
structure Fo where
  ps : List Nat
  es : List (List (Int × Nat))
  ws : List (Nat × Nat)
def repF (ps : List Nat) : Nat → Nat → Nat
  | 0, p => p
  | f + 1, p => if ps.getD p p = p then p else repF ps f (ps.getD p p)
def rep (ps : List Nat) (p : Nat) : Nat := repF ps p p
/-- parents stand ahead -/
def Down (ps : List Nat) : Prop := ∀ p, ps.getD p p ≤ p
theorem repF_any {ps : List Nat} (d : Down ps) : ∀ (f g p : Nat), p ≤ f → p ≤ g → repF ps f p = repF ps g p
  | 0, g, p, hf, hg => by
    have : p = 0 := by omega
    subst this
    have h0 : ps.getD 0 0 = 0 := Nat.le_zero.mp (d 0)
    cases g with
    | zero => rfl
    | succ g => show (0 : Nat) = if _ then _ else _; rw [if_pos h0]
  | f + 1, 0, p, hf, hg => by
    have : p = 0 := by omega
    subst this
    have h0 : ps.getD 0 0 = 0 := Nat.le_zero.mp (d 0)
    show (if _ then _ else _) = (0 : Nat)
    rw [if_pos h0]
  | f + 1, g + 1, p, hf, hg => by
    simp only [repF]
    by_cases h : ps.getD p p = p
    · rw [if_pos h, if_pos h]
    · rw [if_neg h, if_neg h]
      have := d p
      exact repF_any d f g _ (by omega) (by omega)
theorem rep_eq {ps : List Nat} (d : Down ps) (p : Nat) : rep ps p = if ps.getD p p = p then p else rep ps (ps.getD p p) := by
  unfold rep
  rw [repF_any d p (p + 1) p (by omega) (by omega)]
  simp only [repF]
  by_cases h : ps.getD p p = p
  · rw [if_pos h, if_pos h]
  · rw [if_neg h, if_neg h]
    have := d p
    exact repF_any d _ _ _ (by omega) (by omega)
theorem rep_of_root {ps : List Nat} (d : Down ps) {p : Nat} (h : ps.getD p p = p) : rep ps p = p := by rw [rep_eq d, if_pos h]
theorem rep_root {ps : List Nat} (d : Down ps) : ∀ p, ps.getD (rep ps p) (rep ps p) = rep ps p := by
  intro p
  induction p using Nat.strongRecOn with
  | _ p ih =>
    rw [rep_eq d]
    by_cases h : ps.getD p p = p
    · rw [if_pos h]; exact h
    · rw [if_neg h]
      exact ih _ (by have := d p; omega)
theorem rep_le {ps : List Nat} (d : Down ps) : ∀ p, rep ps p ≤ p := by
  intro p
  induction p using Nat.strongRecOn with
  | _ p ih =>
    rw [rep_eq d]
    by_cases h : ps.getD p p = p
    · rw [if_pos h]; exact Nat.le_refl p
    · rw [if_neg h]
      have := d p
      have := ih (ps.getD p p) (by omega)
      omega
theorem rep_rep {ps : List Nat} (d : Down ps) (p : Nat) : rep ps (rep ps p) = rep ps p := rep_of_root d (rep_root d p)
theorem getD_set {ps : List Nat} {i v p q : Nat} (hi : i < ps.length) : (ps.set i v).getD p q = if p = i then v else ps.getD p q := by
  simp only [List.getD_eq_getElem?_getD]
  by_cases h : p = i
  · subst h; rw [if_pos rfl, List.getElem?_set_self hi]; rfl
  · rw [if_neg h, List.getElem?_set_ne (Ne.symm h)]
theorem down_set {ps : List Nat} (d : Down ps) {i v : Nat} (hi : i < ps.length) (hv : v ≤ i) : Down (ps.set i v) := fun p => by
  rw [getD_set hi]
  by_cases h : p = i
  · rw [if_pos h]; omega
  · rw [if_neg h]; exact d p
theorem rep_set {ps : List Nat} (d : Down ps) {one other : Nat} (ho : other < ps.length) (hlt : one < other) (r1 : ps.getD one one = one) (r2 : ps.getD other other = other) :
    ∀ p, rep (ps.set other one) p = if rep ps p = other then one else rep ps p := by
  have d' := down_set d ho (Nat.le_of_lt hlt)
  have h1 : rep (ps.set other one) one = one := rep_of_root d' (by rw [getD_set ho, if_neg (by omega)]; exact r1)
  intro p
  induction p using Nat.strongRecOn with
  | _ p ih =>
    by_cases hp : p = other
    · subst hp
      rw [rep_of_root d r2, if_pos rfl, rep_eq d', getD_set ho, if_pos rfl, if_neg (by omega)]
      exact h1
    · by_cases h : ps.getD p p = p
      · rw [rep_of_root d h, if_neg hp]
        exact rep_of_root d' (by rw [getD_set ho, if_neg hp]; exact h)
      · have := d p
        rw [rep_eq d', getD_set ho, if_neg hp, if_neg h, ih _ (by omega), rep_eq d p, if_neg h]
theorem rep_app {ps : List Nat} (d : Down ps) : Down (ps ++ [ps.length]) ∧ ∀ p, rep (ps ++ [ps.length]) p = rep ps p := by
  have g : ∀ p, (ps ++ [ps.length]).getD p p = ps.getD p p := fun p => by
    simp only [List.getD_eq_getElem?_getD, List.getElem?_append]
    by_cases h : p < ps.length
    · rw [if_pos h]
    · rw [if_neg h]
      have : ps[p]? = none := List.getElem?_eq_none (by omega)
      rw [this]
      by_cases h2 : p = ps.length
      · subst h2; simp
      · have : ([ps.length] : List Nat)[p - ps.length]? = none := List.getElem?_eq_none (by simp; omega)
        rw [this]
  have d' : Down (ps ++ [ps.length]) := fun p => by rw [g]; exact d p
  refine ⟨d', fun p => ?_⟩
  induction p using Nat.strongRecOn with
  | _ p ih =>
    rw [rep_eq d', rep_eq d, g]
    by_cases h : ps.getD p p = p
    · rw [if_pos h, if_pos h]
    · rw [if_neg h, if_neg h]
      exact ih _ (by have := d p; omega)

def endsOf (F : Fo) (p : Nat) : List (Int × Nat) := F.es.getD p []
def putEnd (F : Fo) (p : Nat) (s : Int) (q : Nat) : Fo := match (endsOf F p).lookup s with
  | some r => { F with ws := F.ws ++ [(r, q)] }
  | none => { F with es := F.es.set p (endsOf F p ++ [(s, q)]) }
def putEdge (F : Fo) (p : Nat) (s : Int) (q : Nat) : Fo := putEnd (putEnd F p s q) q (-s) p
def newP (F : Fo) : Fo := { F with ps := F.ps ++ [F.ps.length], es := F.es ++ [[]] }
def putLoop : Fo → Nat → W → Fo
  | F, _, [] => F
  | F, h, [s] => putEdge F h s 0
  | F, h, s :: t :: r => putLoop (putEdge (newP F) h s F.ps.length) F.ps.length (t :: r)
def fo0 : Fo := ⟨[0], [[]], []⟩

/-- places that are, or wait to be, one -/
inductive Conn (F : Fo) : Nat → Nat → Prop
  | same {a b : Nat} : rep F.ps a = rep F.ps b → Conn F a b
  | wait {a b : Nat} : (a, b) ∈ F.ws → Conn F a b
  | symm {a b : Nat} : Conn F a b → Conn F b a
  | trans {a b c : Nat} : Conn F a b → Conn F b c → Conn F a c
theorem Conn.mono {F G : Fo} (h1 : ∀ a b, rep F.ps a = rep F.ps b → Conn G a b) (h2 : ∀ a b, (a, b) ∈ F.ws → Conn G a b) {a b : Nat} (c : Conn F a b) : Conn G a b := by
  induction c with
  | same h => exact h1 _ _ h
  | wait h => exact h2 _ _ h
  | symm _ ih => exact .symm ih
  | trans _ _ i1 i2 => exact .trans i1 i2
theorem Conn.done {F : Fo} (h : F.ws = []) {a b : Nat} (c : Conn F a b) : rep F.ps a = rep F.ps b := by
  induction c with
  | same h => exact h
  | wait z => rw [h] at z; cases z
  | symm _ ih => exact ih.symm
  | trans _ _ i1 i2 => exact i1.trans i2

/-- the edges E, folded so far; L are ends that are still to be put to the place one -/
structure InvL (E : List Edge) (F : Fo) (one : Nat) (L : List (Int × Nat)) : Prop where
  len : F.es.length = F.ps.length
  pos : 0 < F.ps.length
  down : Down F.ps
  one_ : F.ps.getD one one = one ∧ one < F.ps.length
  nod : ∀ p, ((endsOf F p).map (·.1)).Nodup
  lt : ∀ p s q, (p, s, q) ∈ E → p < F.ps.length ∧ q < F.ps.length
  wlt : ∀ a b, (a, b) ∈ F.ws → a < F.ps.length ∧ b < F.ps.length
  j1 : ∀ p s q, (p, s, q) ∈ E → ∃ q', ((s, q') ∈ endsOf F (rep F.ps p) ∨ (rep F.ps p = one ∧ (s, q') ∈ L)) ∧ Conn F q' q
  j2 : ∀ P s q, F.ps.getD P P = P → (s, q) ∈ endsOf F P → ∃ p, (p, s, q) ∈ E ∧ rep F.ps p = P
  jL : ∀ s q, (s, q) ∈ L → ∃ p, (p, s, q) ∈ E ∧ rep F.ps p = one
  j3 : ∀ {R}, Cong E R → (∀ p q, rep F.ps p = rep F.ps q → R p q) ∧ ∀ a b, (a, b) ∈ F.ws → R a b
abbrev InvF (E : List Edge) (F : Fo) : Prop := InvL E F 0 []
theorem InvL.at {E : List Edge} {F : Fo} {one : Nat} (i : InvL E F one []) {p : Nat} (h : F.ps.getD p p = p) (hp : p < F.ps.length) : InvL E F p [] :=
  ⟨i.len, i.pos, i.down, ⟨h, hp⟩, i.nod, i.lt, i.wlt, fun p s q e => by
    obtain ⟨q', h1 | h1, h2⟩ := i.j1 p s q e
    · exact ⟨q', .inl h1, h2⟩
    · exact absurd h1.2 (by simp), i.j2, fun _ _ h => (nomatch h), i.j3⟩
theorem InvL.base {E : List Edge} {F : Fo} {one : Nat} (i : InvL E F one []) : InvF E F := i.at (Nat.le_zero.mp (i.down 0)) i.pos

theorem lookup_mem {l : List (Int × Nat)} {s : Int} {q : Nat} (h : l.lookup s = some q) : (s, q) ∈ l := by
  induction l with
  | nil => cases h
  | cons a l ih =>
    obtain ⟨t, r⟩ := a
    simp only [List.lookup_cons] at h
    by_cases e : s = t
    · subst e
      simp at h
      simp [h]
    · have : (s == t) = false := by simp [e]
      rw [this] at h
      exact List.mem_cons_of_mem _ (ih h)
theorem lookup_of {l : List (Int × Nat)} {s : Int} {q : Nat} (hn : (l.map (·.1)).Nodup) (h : (s, q) ∈ l) : l.lookup s = some q := by
  induction l with
  | nil => cases h
  | cons a l ih =>
    obtain ⟨t, r⟩ := a
    rw [List.map_cons, List.nodup_cons] at hn
    simp only [List.lookup_cons]
    rcases List.mem_cons.mp h with e | h
    · cases e; simp
    · have : s ≠ t := fun e => hn.1 (e ▸ List.mem_map.mpr ⟨_, h, rfl⟩)
      have : (s == t) = false := by simp [this]
      rw [this]
      exact ih hn.2 h
theorem lookup_none {l : List (Int × Nat)} {s : Int} (h : l.lookup s = none) : s ∉ l.map (·.1) := by
  induction l with
  | nil => simp
  | cons a l ih =>
    obtain ⟨t, r⟩ := a
    simp only [List.lookup_cons] at h
    by_cases e : s = t
    · subst e; simp at h
    · have e2 : (s == t) = false := by simp [e]
      rw [e2] at h
      simp only [List.map_cons, List.mem_cons, not_or]
      exact ⟨e, ih h⟩
theorem endsOf_set {F : Fo} {p x : Nat} {l : List (Int × Nat)} (hp : p < F.es.length) : endsOf { F with es := F.es.set p l } x = if x = p then l else endsOf F x := by
  unfold endsOf
  simp only [List.getD_eq_getElem?_getD]
  by_cases h : x = p
  · subst h; rw [if_pos rfl, List.getElem?_set_self hp]; rfl
  · rw [if_neg h, List.getElem?_set_ne (Ne.symm h)]
/-- one end is put -/
theorem InvL.put {E : List Edge} {F : Fo} {one : Nat} {s : Int} {q : Nat} {L : List (Int × Nat)} (i : InvL E F one ((s, q) :: L)) : InvL E (putEnd F one s q) one L := by
  have hq : q < F.ps.length := by
    obtain ⟨p, e, _⟩ := i.jL s q (by simp)
    exact (i.lt _ _ _ e).2
  have hone : one < F.es.length := by rw [i.len]; exact i.one_.2
  unfold putEnd
  cases c : (endsOf F one).lookup s with
  | some r =>
    have hr := lookup_mem c
    obtain ⟨p1, e1, r1⟩ := i.j2 one s r i.one_.1 hr
    obtain ⟨p2, e2, r2⟩ := i.jL s q (by simp)
    have cm : ∀ {a b}, Conn F a b → Conn { F with ws := F.ws ++ [(r, q)] } a b := fun c => Conn.mono (F := F) (G := { F with ws := F.ws ++ [(r, q)] }) (fun _ _ h => .same h) (fun _ _ h => .wait (by simp [h])) c
    refine ⟨i.len, i.pos, i.down, i.one_, i.nod, i.lt, fun a b h => ?_, fun p s' q' e => ?_, i.j2, fun s' q' h => i.jL s' q' (by simp [h]), fun {R} c => ⟨(i.j3 c).1, fun a b h => ?_⟩⟩
    · rcases List.mem_append.mp h with h | h
      · exact i.wlt a b h
      · simp only [List.mem_singleton, Prod.mk.injEq] at h
        rw [h.1, h.2]
        exact ⟨(i.lt _ _ _ e1).2, hq⟩
    · obtain ⟨x, h1 | ⟨h1, h2⟩, h3⟩ := i.j1 p s' q' e
      · exact ⟨x, .inl h1, cm h3⟩
      · rcases List.mem_cons.mp h2 with h2 | h2
        · cases h2
          exact ⟨r, .inl (by rw [show rep F.ps p = one from h1]; exact hr), .trans (.wait (by simp)) (cm h3)⟩
        · exact ⟨x, .inr ⟨h1, h2⟩, cm h3⟩
    · rcases List.mem_append.mp h with h | h
      · exact (i.j3 c).2 a b h
      · simp only [List.mem_singleton, Prod.mk.injEq] at h
        rw [h.1, h.2]
        exact c.next e1 e2 ((i.j3 c).1 _ _ (r1.trans r2.symm))
  | none =>
    have eo : ∀ x, endsOf { F with es := F.es.set one (endsOf F one ++ [(s, q)]) } x = if x = one then endsOf F one ++ [(s, q)] else endsOf F x := fun x => endsOf_set hone
    have sub : ∀ {x y}, y ∈ endsOf F x → y ∈ endsOf { F with es := F.es.set one (endsOf F one ++ [(s, q)]) } x := fun {x y} h => by
      rw [eo]
      by_cases z : x = one
      · subst z; rw [if_pos rfl]; simp [h]
      · rw [if_neg z]; exact h
    have cm : ∀ {a b}, Conn F a b → Conn { F with es := F.es.set one (endsOf F one ++ [(s, q)]) } a b := fun c => Conn.mono (F := F) (G := { F with es := F.es.set one (endsOf F one ++ [(s, q)]) }) (fun _ _ h => .same h) (fun _ _ h => .wait h) c
    refine ⟨by simpa using i.len, i.pos, i.down, i.one_, fun p => ?_, i.lt, i.wlt, fun p s' q' e => ?_, fun P s' q' hP h => ?_, fun s' q' h => i.jL s' q' (by simp [h]), fun {R} c => i.j3 c⟩
    · rw [eo]
      by_cases z : p = one
      · rw [if_pos z, List.map_append, List.nodup_append]
        refine ⟨i.nod one, by simp, fun a ha b hb => ?_⟩
        simp at hb
        subst hb
        exact fun e => lookup_none c (e ▸ ha)
      · rw [if_neg z]; exact i.nod p
    · obtain ⟨x, h1 | ⟨h1, h2⟩, h3⟩ := i.j1 p s' q' e
      · exact ⟨x, .inl (sub h1), cm h3⟩
      · rcases List.mem_cons.mp h2 with h2 | h2
        · cases h2
          exact ⟨q, .inl (by rw [show rep F.ps p = one from h1, eo, if_pos rfl]; simp), cm h3⟩
        · exact ⟨x, .inr ⟨h1, h2⟩, cm h3⟩
    · rw [eo] at h
      by_cases z : P = one
      · subst z
        rw [if_pos rfl] at h
        rcases List.mem_append.mp h with h | h
        · exact i.j2 P s' q' hP h
        · simp only [List.mem_singleton, Prod.mk.injEq] at h
          rw [h.1, h.2]
          exact i.jL s q (by simp)
      · rw [if_neg z] at h
        exact i.j2 P s' q' hP h
/-- a new edge is to be put -/
theorem InvL.more {E : List Edge} {F : Fo} {p : Nat} {s : Int} {q : Nat} (i : InvL E F p []) (hq : q < F.ps.length) : InvL (E ++ [(p, s, q)]) F p [(s, q)] := by
  have rp : rep F.ps p = p := rep_of_root i.down i.one_.1
  refine ⟨i.len, i.pos, i.down, i.one_, i.nod, fun a t b h => ?_, i.wlt, fun a t b h => ?_, fun P t b hP h => ?_, fun t b h => ?_, fun {R} c => i.j3 ⟨c.refl, c.symm, c.trans, fun h h' => c.next (List.mem_append_left _ h) (List.mem_append_left _ h')⟩⟩
  · rcases List.mem_append.mp h with h | h
    · exact i.lt a t b h
    · simp only [List.mem_singleton, Prod.mk.injEq] at h
      obtain ⟨rfl, rfl, rfl⟩ := h
      exact ⟨i.one_.2, hq⟩
  · rcases List.mem_append.mp h with h | h
    · obtain ⟨x, h1 | h1, h2⟩ := i.j1 a t b h
      · exact ⟨x, .inl h1, h2⟩
      · exact absurd h1.2 (by simp)
    · simp only [List.mem_singleton, Prod.mk.injEq] at h
      obtain ⟨rfl, rfl, rfl⟩ := h
      exact ⟨b, .inr ⟨rp, by simp⟩, .same rfl⟩
  · obtain ⟨x, e, r⟩ := i.j2 P t b hP h
    exact ⟨x, by simp [e], r⟩
  · simp only [List.mem_singleton, Prod.mk.injEq] at h
    obtain ⟨rfl, rfl⟩ := h
    exact ⟨p, by simp, rp⟩
theorem InvL.fresh {E : List Edge} {F : Fo} (i : InvF E F) : InvF E (newP F) := by
  obtain ⟨d, r⟩ := rep_app i.down
  have r' : ∀ p, rep (newP F).ps p = rep F.ps p := r
  have eo : ∀ x, endsOf (newP F) x = endsOf F x := fun x => by
    unfold endsOf newP
    simp only [List.getD_eq_getElem?_getD, List.getElem?_append]
    by_cases h : x < F.es.length
    · rw [if_pos h]
    · rw [if_neg h]
      have : F.es[x]? = none := List.getElem?_eq_none (by omega)
      rw [this]
      by_cases h2 : x - F.es.length = 0
      · rw [h2]; rfl
      · have : ([[]] : List (List (Int × Nat)))[x - F.es.length]? = none := List.getElem?_eq_none (by simp; omega)
        rw [this]
  have g : ∀ p, (newP F).ps.getD p p = p → F.ps.getD p p = p := fun p h => by
    have h : (F.ps ++ [F.ps.length]).getD p p = p := h
    simp only [List.getD_eq_getElem?_getD, List.getElem?_append] at h ⊢
    by_cases q : p < F.ps.length
    · rw [if_pos q] at h; exact h
    · have : F.ps[p]? = none := List.getElem?_eq_none (by omega)
      rw [this]; rfl
  have sz : (newP F).ps.length = F.ps.length + 1 := by simp [newP]
  refine ⟨by simp [newP, i.len], by rw [sz]; omega, d, ⟨Nat.le_zero.mp (d 0), by rw [sz]; omega⟩, fun p => by rw [eo]; exact i.nod p, fun p s q e => by have := i.lt p s q e; rw [sz]; omega, fun a b h => by have := i.wlt a b h; rw [sz]; omega, fun p s q e => ?_, fun P s q hP h => ?_, fun _ _ h => (nomatch h), fun {R} c => ⟨fun p q h => (i.j3 c).1 p q (by rw [r', r'] at h; exact h), (i.j3 c).2⟩⟩
  · obtain ⟨x, h1 | h1, h2⟩ := i.j1 p s q e
    · exact ⟨x, .inl (by rw [r', eo]; exact h1), Conn.mono (F := F) (G := newP F) (fun a b h => .same (by rw [r', r']; exact h)) (fun a b h => .wait h) h2⟩
    · exact absurd h1.2 (by simp)
  · rw [eo] at h
    obtain ⟨x, e, z⟩ := i.j2 P s q (g P hP) h
    exact ⟨x, e, by rw [r']; exact z⟩

/-! ### loops are put -/
/-- nothing has been made one -/
def Flat (F : Fo) : Prop := ∀ p, F.ps.getD p p = p
theorem putEnd_ps (F : Fo) (p : Nat) (s : Int) (q : Nat) : (putEnd F p s q).ps = F.ps := by
  unfold putEnd; split <;> rfl
theorem putEdge_ps (F : Fo) (p : Nat) (s : Int) (q : Nat) : (putEdge F p s q).ps = F.ps := by
  unfold putEdge; rw [putEnd_ps, putEnd_ps]
theorem flat_new {F : Fo} (f : Flat F) : Flat (newP F) := fun p => by
  show (F.ps ++ [F.ps.length]).getD p p = p
  have := f p
  simp only [List.getD_eq_getElem?_getD, List.getElem?_append] at this ⊢
  by_cases q : p < F.ps.length
  · rw [if_pos q]; exact this
  · rw [if_neg q]
    by_cases h2 : p = F.ps.length
    · subst h2; simp
    · have : ([F.ps.length] : List Nat)[p - F.ps.length]? = none := List.getElem?_eq_none (by simp; omega)
      rw [this]; rfl
theorem InvL.edge {E : List Edge} {F : Fo} (i : InvF E F) (f : Flat F) {p q : Nat} {s : Int} (hp : p < F.ps.length) (hq : q < F.ps.length) :
    InvF (E ++ [(p, s, q), (q, -s, p)]) (putEdge F p s q) ∧ Flat (putEdge F p s q) ∧ (putEdge F p s q).ps.length = F.ps.length := by
  have a1 := ((i.at (f p) hp).more hq (s := s)).put
  have a2 : InvL (E ++ [(p, s, q)]) (putEnd F p s q) q [] := a1.at (by rw [putEnd_ps]; exact f q) (by rw [putEnd_ps]; exact hq)
  have a3 := (a2.more (s := -s) (q := p) (by rw [putEnd_ps]; exact hp)).put
  refine ⟨?_, fun x => by rw [putEdge_ps]; exact f x, by rw [putEdge_ps]⟩
  have := a3.base
  rw [List.append_assoc] at this
  exact this
theorem putLoop_inv : ∀ (d : W) (E : List Edge) (F : Fo) (h : Nat), InvF E F → Flat F → h < F.ps.length →
    InvF (E ++ (loopE h F.ps.length d).1) (putLoop F h d) ∧ Flat (putLoop F h d) ∧ (putLoop F h d).ps.length = (loopE h F.ps.length d).2
  | [], E, F, h, i, f, _ => by simpa [loopE, putLoop] using ⟨i, f⟩
  | [s], E, F, h, i, f, hh => by
    have := i.edge f hh i.pos (s := s)
    exact this
  | s :: t :: r, E, F, h, i, f, hh => by
    have i2 := i.fresh
    have f2 := flat_new f
    have sz : (newP F).ps.length = F.ps.length + 1 := by simp [newP]
    obtain ⟨i3, f3, l3⟩ := i2.edge f2 (p := h) (q := F.ps.length) (s := s) (by omega) (by omega)
    obtain ⟨i4, f4, l4⟩ := putLoop_inv (t :: r) _ _ F.ps.length i3 f3 (by omega)
    rw [l3, sz] at i4 l4
    exact ⟨by simpa [loopE, putLoop] using i4, f4, l4⟩
def putAll (F : Fo) (D : List W) : Fo := D.foldl (fun F d => putLoop F 0 d) F
theorem putAll_inv : ∀ (D : List W) (E : List Edge) (F : Fo), InvF E F → Flat F → InvF (E ++ (flowerE F.ps.length D).1) (putAll F D) ∧ Flat (putAll F D) ∧ (putAll F D).ps.length = (flowerE F.ps.length D).2
  | [], E, F, i, f => by simpa [flowerE, putAll] using ⟨i, f⟩
  | d :: D, E, F, i, f => by
    obtain ⟨i2, f2, l2⟩ := putLoop_inv d E F 0 i f i.pos
    obtain ⟨i3, f3, l3⟩ := putAll_inv D _ _ i2 f2
    rw [l2] at i3 l3
    exact ⟨by simpa [flowerE, putAll] using i3, f3, l3⟩
theorem inv0 : InvF [] fo0 ∧ Flat fo0 := by
  have fl : Flat fo0 := fun p => by
    cases p with
    | zero => rfl
    | succ p => simp [fo0]
  have dn : Down fo0.ps := fun p => Nat.le_of_eq (fl p)
  have en : ∀ p, endsOf fo0 p = [] := fun p => by
    cases p with
    | zero => rfl
    | succ p => simp [endsOf, fo0]
  refine ⟨⟨rfl, by decide, dn, ⟨rfl, by decide⟩, fun p => by rw [en]; simp, (fun _ _ _ h => (nomatch h)), (fun _ _ h => (nomatch h)), (fun _ _ _ h => (nomatch h)), (fun P s q _ h => by rw [en] at h; cases h), (fun _ _ h => (nomatch h)), fun {R} c => ⟨fun p q h => ?_, fun _ _ h => (nomatch h)⟩⟩, fl⟩
  rw [rep_of_root dn (fl p), rep_of_root dn (fl q)] at h
  subst h
  exact c.refl p

/-! ### couples are made one -/
def foldOne (F : Fo) (a b : Nat) : Fo :=
  let one := min (rep F.ps a) (rep F.ps b)
  let other := max (rep F.ps a) (rep F.ps b)
  if one = other then F else (endsOf F other).foldl (fun G e => putEnd G one e.1 e.2) { F with ps := F.ps.set other one }
theorem putAllEnds {E : List Edge} {one : Nat} : ∀ (L : List (Int × Nat)) (F : Fo), InvL E F one L → InvL E (L.foldl (fun G e => putEnd G one e.1 e.2) F) one []
  | [], _, i => i
  | (s, q) :: L, F, i => putAllEnds L _ i.put
theorem foldMid {E : List Edge} {F : Fo} {ws : List (Nat × Nat)} {a b one other : Nat} (i : InvF E F) (hw : F.ws = ws ++ [(a, b)]) (ho : min (rep F.ps a) (rep F.ps b) = one) (hm : max (rep F.ps a) (rep F.ps b) = other) (eq : one ≠ other) :
    InvL E { F with ws := ws, ps := F.ps.set other one } one (endsOf F other) ∧ F.ps.getD other other = other ∧ other < F.ps.length := by
  have sub : ∀ {x}, x ∈ ws → x ∈ F.ws := fun h => by rw [hw]; simp [h]
  have hab : (a, b) ∈ F.ws := by rw [hw]; simp
  obtain ⟨la, lb⟩ := i.wlt a b hab
  have hlt : one < other := by omega
  have two : (rep F.ps a = one ∧ rep F.ps b = other) ∨ (rep F.ps a = other ∧ rep F.ps b = one) := by omega
  have ra := rep_root i.down a
  have rb := rep_root i.down b
  have lea := rep_le i.down a
  have leb := rep_le i.down b
  have r1 : F.ps.getD one one = one := by rcases two with ⟨h, _⟩ | ⟨_, h⟩ <;> rw [← h] <;> assumption
  have r2 : F.ps.getD other other = other := by rcases two with ⟨_, h⟩ | ⟨h, _⟩ <;> rw [← h] <;> assumption
  have lo : other < F.ps.length := by omega
  have d' := down_set i.down lo (Nat.le_of_lt hlt)
  have rs := rep_set i.down lo hlt r1 r2
  have eo : ∀ x, endsOf ({ F with ws := ws, ps := F.ps.set other one } : Fo) x = endsOf F x := fun _ => rfl
  have cm : ∀ {x y}, Conn F x y → Conn ({ F with ws := ws, ps := F.ps.set other one } : Fo) x y := fun {x y} c => Conn.mono (F := F) (G := ({ F with ws := ws, ps := F.ps.set other one } : Fo)) (fun x y h => .same (by show rep (F.ps.set other one) x = rep (F.ps.set other one) y; rw [rs, rs, h])) (h2 := fun x y h => by
    rw [hw] at h
    rcases List.mem_append.mp h with h | h
    · exact .wait h
    · simp only [List.mem_singleton, Prod.mk.injEq] at h
      obtain ⟨rfl, rfl⟩ := h
      refine .same ?_
      show rep (F.ps.set other one) x = rep (F.ps.set other one) y
      rw [rs, rs]
      rcases two with ⟨h1, h2⟩ | ⟨h1, h2⟩
      · rw [h1, h2, if_neg (by omega), if_pos rfl]
      · rw [h1, h2, if_pos rfl, if_neg (by omega)]) c
  refine ⟨⟨by simpa using i.len, by simpa using i.pos, d', ⟨by show (F.ps.set other one).getD one one = one; rw [getD_set lo, if_neg (by omega)]; exact r1, by show one < (F.ps.set other one).length; simp; omega⟩, i.nod, fun p s q h => by simpa using i.lt p s q h, fun x y h => by simpa using i.wlt x y (sub h), fun p s q h => ?_, fun P s q hP h => ?_, fun s q h => ?_, fun {R} c => ⟨fun p q h => ?_, fun x y h => (i.j3 c).2 x y (sub h)⟩⟩, r2, lo⟩
  · obtain ⟨x, h1 | h1, h2⟩ := i.j1 p s q h
    · refine ⟨x, ?_, cm h2⟩
      show (s, x) ∈ endsOf F (rep (F.ps.set other one) p) ∨ (rep (F.ps.set other one) p = one ∧ _)
      rw [rs]
      by_cases z : rep F.ps p = other
      · rw [if_pos z]
        rw [z] at h1
        exact .inr ⟨rfl, h1⟩
      · rw [if_neg z]; exact .inl h1
    · exact absurd h1.2 (by simp)
  · have hP : (F.ps.set other one).getD P P = P := hP
    rw [getD_set lo] at hP
    have ne : P ≠ other := fun z => by rw [if_pos z] at hP; omega
    rw [if_neg ne] at hP
    obtain ⟨x, e, r⟩ := i.j2 P s q hP h
    refine ⟨x, e, ?_⟩
    show rep (F.ps.set other one) x = P
    rw [rs, r, if_neg ne]
  · obtain ⟨x, e, r⟩ := i.j2 other s q r2 h
    refine ⟨x, e, ?_⟩
    show rep (F.ps.set other one) x = one
    rw [rs, r, if_pos rfl]
  · have h : rep (F.ps.set other one) p = rep (F.ps.set other one) q := h
    rw [rs, rs] at h
    have R0 : ∀ x, R x (rep F.ps x) := fun x => (i.j3 c).1 _ _ (rep_rep i.down x).symm
    have Rab : R a b := (i.j3 c).2 a b hab
    have R12 : R one other := by
      have := c.trans (c.trans (c.symm (R0 a)) Rab) (R0 b)
      rcases two with ⟨h1, h2⟩ | ⟨h1, h2⟩
      · rw [h1, h2] at this; exact this
      · rw [h1, h2] at this; exact c.symm this
    by_cases z1 : rep F.ps p = other
    · by_cases z2 : rep F.ps q = other
      · exact (i.j3 c).1 p q (z1.trans z2.symm)
      · rw [if_pos z1, if_neg z2] at h
        have h1 := R0 p
        have h2 := R0 q
        rw [z1] at h1
        rw [← h] at h2
        exact c.trans h1 (c.trans (c.symm R12) (c.symm h2))
    · by_cases z2 : rep F.ps q = other
      · rw [if_neg z1, if_pos z2] at h
        have h1 := R0 p
        have h2 := R0 q
        rw [z2] at h2
        rw [h] at h1
        exact c.trans h1 (c.trans R12 (c.symm h2))
      · rw [if_neg z1, if_neg z2] at h
        exact (i.j3 c).1 p q h

theorem foldOne_inv {E : List Edge} {F : Fo} {ws : List (Nat × Nat)} {a b : Nat} (i : InvF E F) (hw : F.ws = ws ++ [(a, b)]) : InvF E (foldOne { F with ws := ws } a b) := by
  have sub : ∀ {x}, x ∈ ws → x ∈ F.ws := fun h => by rw [hw]; simp [h]
  have hab : (a, b) ∈ F.ws := by rw [hw]; simp
  obtain ⟨la, lb⟩ := i.wlt a b hab
  unfold foldOne
  by_cases eq : min (rep F.ps a) (rep F.ps b) = max (rep F.ps a) (rep F.ps b)
  · have e : rep F.ps a = rep F.ps b := by omega
    simp only [eq, if_true]
    refine ⟨i.len, i.pos, i.down, i.one_, i.nod, i.lt, fun x y h => i.wlt x y (sub h), fun p s q h => ?_, i.j2, i.jL, fun {R} c => ⟨(i.j3 c).1, fun x y h => (i.j3 c).2 x y (sub h)⟩⟩
    obtain ⟨x, h1, h2⟩ := i.j1 p s q h
    refine ⟨x, h1, Conn.mono (F := F) (G := { F with ws := ws }) (fun _ _ h => .same h) (fun x y h => ?_) h2⟩
    rw [hw] at h
    rcases List.mem_append.mp h with h | h
    · exact .wait h
    · simp only [List.mem_singleton, Prod.mk.injEq] at h
      obtain ⟨rfl, rfl⟩ := h
      exact .same e
  · simp only [eq, if_false]
    exact (putAllEnds _ _ (foldMid i hw rfl rfl eq).1).base

/-! ### the number that falls -/
def sumTo (f : Nat → Nat) : Nat → Nat
  | 0 => 0
  | n + 1 => sumTo f n + f n
theorem sumTo_same {f g : Nat → Nat} : ∀ {n : Nat}, (∀ i, i < n → f i = g i) → sumTo f n = sumTo g n
  | 0, _ => rfl
  | n + 1, h => by simp only [sumTo]; rw [sumTo_same fun i hi => h i (by omega), h n (by omega)]
theorem sumTo_one {f g : Nat → Nat} {k : Nat} : ∀ {n : Nat}, k < n → (∀ i, i ≠ k → f i = g i) → sumTo f n + g k = sumTo g n + f k
  | 0, h, _ => by omega
  | n + 1, h, e => by
    simp only [sumTo]
    by_cases q : k = n
    · subst q
      rw [sumTo_same (f := f) (g := g) fun i hi => e i (by omega)]; omega
    · have := sumTo_one (f := f) (g := g) (k := k) (n := n) (by omega) e
      have := e n (Ne.symm q)
      omega
def mu (F : Fo) : Nat := F.ws.length + sumTo (fun P => if F.ps.getD P P = P then (endsOf F P).length else 0) F.ps.length
theorem mu_put {F : Fo} {one : Nat} {s : Int} {q : Nat} (hl : F.es.length = F.ps.length) (h1 : F.ps.getD one one = one) (h2 : one < F.ps.length) : mu (putEnd F one s q) = mu F + 1 := by
  unfold putEnd
  cases c : (endsOf F one).lookup s with
  | some r =>
    show (F.ws ++ [(r, q)]).length + sumTo (fun P => if F.ps.getD P P = P then (endsOf F P).length else 0) F.ps.length = F.ws.length + sumTo (fun P => if F.ps.getD P P = P then (endsOf F P).length else 0) F.ps.length + 1
    rw [List.length_append, List.length_singleton]; omega
  | none =>
    unfold mu
    have eo : ∀ x, endsOf { F with es := F.es.set one (endsOf F one ++ [(s, q)]) } x = if x = one then endsOf F one ++ [(s, q)] else endsOf F x := fun x => endsOf_set (by omega)
    have := sumTo_one (f := fun P => if F.ps.getD P P = P then (endsOf { F with es := F.es.set one (endsOf F one ++ [(s, q)]) } P).length else 0) (g := fun P => if F.ps.getD P P = P then (endsOf F P).length else 0) (k := one) (n := F.ps.length) h2 (fun i hi => by
      show (if _ then _ else _) = (if _ then _ else _)
      rw [eo, if_neg hi])
    simp only [h1, if_true, eo, List.length_append, List.length_singleton] at this ⊢
    omega
theorem mu_puts {E : List Edge} {one : Nat} : ∀ (L : List (Int × Nat)) (F : Fo), InvL E F one L → mu (L.foldl (fun G e => putEnd G one e.1 e.2) F) = mu F + L.length
  | [], _, _ => rfl
  | (s, q) :: L, F, i => by
    simp only [List.foldl_cons, List.length_cons]
    rw [mu_puts L _ i.put, mu_put i.len i.one_.1 i.one_.2]; omega
theorem mu_foldOne {E : List Edge} {F : Fo} {ws : List (Nat × Nat)} {a b : Nat} (i : InvF E F) (hw : F.ws = ws ++ [(a, b)]) : mu (foldOne { F with ws := ws } a b) < mu F := by
  unfold foldOne
  by_cases eq : min (rep F.ps a) (rep F.ps b) = max (rep F.ps a) (rep F.ps b)
  · simp only [eq, if_true]
    show ws.length + sumTo (fun P => if F.ps.getD P P = P then (endsOf F P).length else 0) F.ps.length < F.ws.length + _
    rw [hw, List.length_append, List.length_singleton]; omega
  · simp only [eq, if_false]
    obtain ⟨i2, r2, lo⟩ := foldMid i hw rfl rfl eq
    have i2' := mu_puts _ _ i2
    generalize min (rep F.ps a) (rep F.ps b) = one at *
    generalize max (rep F.ps a) (rep F.ps b) = other at *
    have e : mu (List.foldl (fun G e => putEnd G one e.1 e.2) { ps := F.ps.set other one, es := F.es, ws := ws } (endsOf F other)) = mu { ps := F.ps.set other one, es := F.es, ws := ws } + (endsOf F other).length := i2'
    have goal : mu { ps := F.ps.set other one, es := F.es, ws := ws } + (endsOf F other).length < mu F := by
      have := sumTo_one (f := fun P => if (F.ps.set other one).getD P P = P then (endsOf F P).length else 0) (g := fun P => if F.ps.getD P P = P then (endsOf F P).length else 0) (k := other) (n := F.ps.length) lo (fun i hi => by
        show (if _ then _ else _) = (if _ then _ else _)
        rw [getD_set lo, if_neg hi])
      rw [getD_set lo, if_pos rfl, if_neg eq, if_pos r2] at this
      show ws.length + sumTo (fun P => if (F.ps.set other one).getD P P = P then (endsOf F P).length else 0) (F.ps.set other one).length + _ < F.ws.length + _
      rw [hw, List.length_append, List.length_singleton, List.length_set]
      omega
    exact e ▸ goal
end FG
/-! The folded places are a quotient. -/
namespace FG
def delta (F : Fo) : Dl := fun P s => ((endsOf F P).lookup s).map (rep F.ps)
theorem quot_of {E : List Edge} {F : Fo} (i : InvF E F) (h : F.ws = []) : Quot E (rep F.ps) (delta F) := by
  refine ⟨Nat.le_zero.mp (rep_le i.down 0), rep_rep i.down, fun {p s q} e => ?_, fun {P s Q} hP hQ => ?_, fun {R} c p q e => (i.j3 c).1 p q e⟩
  · obtain ⟨x, h1 | h1, h2⟩ := i.j1 p s q e
    · show ((endsOf F (rep F.ps p)).lookup s).map (rep F.ps) = _
      rw [lookup_of (i.nod _) h1, Option.map_some, h2.done h]
    · exact absurd h1.2 (by simp)
  · unfold delta at hQ
    have root : F.ps.getD P P = P := by have := rep_root i.down P; rwa [hP] at this
    cases c : (endsOf F P).lookup s with
    | none => simp [c] at hQ
    | some q =>
      simp only [c, Option.map_some, Option.some.injEq] at hQ
      obtain ⟨p, e, r⟩ := i.j2 P s q root (lookup_mem c)
      exact ⟨p, q, e, r, hQ⟩
/-- all loops put -/
theorem puts_inv (D : List W) : InvF (flower D) (putAll fo0 D) ∧ Flat (putAll fo0 D) ∧ (putAll fo0 D).ps.length = (flowerE 1 D).2 := by
  have := putAll_inv D [] fo0 inv0.1 inv0.2
  rw [List.nil_append] at this
  exact this
end FG
/-! Bounds of folding. -/
namespace FG
theorem sumTo_ge (f : Nat → Nat) {k : Nat} : ∀ {n : Nat}, k < n → f k ≤ sumTo f n
  | 0, h => by omega
  | n + 1, h => by
    simp only [sumTo]
    by_cases q : k = n
    · subst q; omega
    · have := sumTo_ge f (k := k) (n := n) (by omega); omega
theorem ends_mu {F : Fo} {p : Nat} (h : F.ps.getD p p = p) (hp : p < F.ps.length) : (endsOf F p).length ≤ mu F := by
  have := sumTo_ge (fun P => if F.ps.getD P P = P then (endsOf F P).length else 0) (k := p) (n := F.ps.length) hp
  simp only [h, if_true] at this
  unfold mu; omega
theorem ws_mu (F : Fo) : F.ws.length ≤ mu F := by unfold mu; omega
theorem ends_flat {F : Fo} (h : Flat F) (hl : F.es.length = F.ps.length) (x : Nat) : (endsOf F x).length ≤ mu F := by
  by_cases hx : x < F.ps.length
  · exact ends_mu (h x) hx
  · have : endsOf F x = [] := by
      unfold endsOf
      rw [List.getD_eq_getElem?_getD, List.getElem?_eq_none (by omega)]; rfl
    rw [this]; simp
theorem mu_edge {F : Fo} (h : Flat F) (hl : F.es.length = F.ps.length) {p q : Nat} (hp : p < F.ps.length) (hq : q < F.ps.length) (s : Int) : mu (putEdge F p s q) = mu F + 2 := by
  have l1 : (putEnd F p s q).es.length = (putEnd F p s q).ps.length := by
    rw [putEnd_ps]; unfold putEnd; split <;> simp [hl]
  unfold putEdge
  rw [mu_put l1 (by rw [putEnd_ps]; exact h q) (by rw [putEnd_ps]; exact hq), mu_put hl (h p) hp]
theorem mu_new {F : Fo} (h : Flat F) (hl : F.es.length = F.ps.length) : mu (newP F) = mu F := by
  have eo : ∀ x, x < F.ps.length → endsOf (newP F) x = endsOf F x := fun x hx => by
    unfold endsOf newP
    simp only [List.getD_eq_getElem?_getD, List.getElem?_append]
    rw [if_pos (by omega)]
  have en : endsOf (newP F) F.ps.length = [] := by
    unfold endsOf newP
    simp only [List.getD_eq_getElem?_getD, List.getElem?_append]
    rw [if_neg (by omega), hl]; simp
  have f2 := flat_new h
  have sz : (newP F).ps.length = F.ps.length + 1 := by simp [newP]
  unfold mu
  rw [sz]
  simp only [sumTo]
  have e1 : sumTo (fun P => if (newP F).ps.getD P P = P then (endsOf (newP F) P).length else 0) F.ps.length = sumTo (fun P => if F.ps.getD P P = P then (endsOf F P).length else 0) F.ps.length :=
    sumTo_same fun i hi => by
      show (if _ then _ else _) = (if _ then _ else _)
      rw [if_pos (f2 i), if_pos (h i), eo i hi]
  rw [e1, en]
  simp [newP]
theorem mu_loop : ∀ (d : W) (E : List Edge) (F : Fo) (h : Nat), InvF E F → Flat F → h < F.ps.length → mu (putLoop F h d) = mu F + 2 * d.length
  | [], E, F, h, i, f, hh => rfl
  | [s], E, F, h, i, f, hh => mu_edge f i.len hh i.pos s
  | s :: t :: r, E, F, h, i, f, hh => by
    have i2 := i.fresh
    have f2 := flat_new f
    have sz : (newP F).ps.length = F.ps.length + 1 := by simp [newP]
    obtain ⟨i3, f3, l3⟩ := i2.edge f2 (p := h) (q := F.ps.length) (s := s) (by omega) (by omega)
    have := mu_loop (t :: r) _ _ F.ps.length i3 f3 (by omega)
    show mu (putLoop (putEdge (newP F) h s F.ps.length) F.ps.length (t :: r)) = _
    rw [this, mu_edge f2 i2.len (by omega) (by omega), mu_new f i.len]
    simp; omega
theorem loop_len : ∀ (d : W) (h m : Nat), (loopE h m d).2 ≤ m + d.length
  | [], h, m => by simp [loopE]
  | [s], h, m => by simp [loopE]
  | s :: t :: r, h, m => by
    have := loop_len (t :: r) m (m + 1)
    simp only [loopE, List.length_cons] at this ⊢
    omega
/-- the acts of all -/
def total (D : List W) : Nat := (D.map List.length).sum
theorem all_len : ∀ (D : List W) (m : Nat), (flowerE m D).2 ≤ m + total D
  | [], m => by simp [flowerE, total]
  | d :: D, m => by
    have h1 := loop_len d 0 m
    have h2 := all_len D (loopE 0 m d).2
    simp only [flowerE, total, List.map_cons, List.sum_cons] at h2 ⊢
    omega
theorem mu_all : ∀ (D : List W) (E : List Edge) (F : Fo), InvF E F → Flat F → mu (putAll F D) = mu F + 2 * total D
  | [], E, F, i, f => by simp [putAll, total]
  | d :: D, E, F, i, f => by
    obtain ⟨i2, f2, l2⟩ := putLoop_inv d E F 0 i f i.pos
    have := mu_all D _ _ i2 f2
    show mu (putAll (putLoop F 0 d) D) = _
    rw [this, mu_loop d E F 0 i f i.pos]
    simp [total]; omega
/-- distinct numbers below n are n at most -/
theorem nodup_le : ∀ (n : Nat) (l : List Nat), l.Nodup → (∀ x ∈ l, x < n) → l.length ≤ n
  | 0, l, _, h => by
    cases l with
    | nil => exact Nat.le_refl 0
    | cons a l => exact absurd (h a (by simp)) (by omega)
  | n + 1, l, hn, h => by
    have h1 := nodup_le n (l.erase n) (hn.erase n) (fun x hx => by
      have h2 := (hn.mem_erase_iff).mp hx
      have := h x h2.2
      have := h2.1
      omega)
    have : l.length ≤ (l.erase n).length + 1 := by rw [List.length_erase]; split <;> omega
    omega
theorem foldMid_mu {F : Fo} {ws : List (Nat × Nat)} {a b one other : Nat} (hw : F.ws = ws ++ [(a, b)]) (r2 : F.ps.getD other other = other) (lo : other < F.ps.length) (eq : one ≠ other) :
    mu { F with ws := ws, ps := F.ps.set other one } + (endsOf F other).length < mu F := by
  have := sumTo_one (f := fun P => if (F.ps.set other one).getD P P = P then (endsOf F P).length else 0) (g := fun P => if F.ps.getD P P = P then (endsOf F P).length else 0) (k := other) (n := F.ps.length) lo (fun i hi => by
    show (if _ then _ else _) = (if _ then _ else _)
    rw [getD_set lo, if_neg hi])
  rw [getD_set lo, if_pos rfl, if_neg eq, if_pos r2] at this
  show ws.length + sumTo (fun P => if (F.ps.set other one).getD P P = P then (endsOf F P).length else 0) (F.ps.set other one).length + _ < F.ws.length + _
  rw [hw, List.length_append, List.length_singleton, List.length_set]
  omega
theorem foldOne_ps (F : Fo) (a b : Nat) : (foldOne F a b).ps.length = F.ps.length := by
  have : ∀ (one : Nat) (L : List (Int × Nat)) (G : Fo), (L.foldl (fun G e => putEnd G one e.1 e.2) G).ps = G.ps := by
    intro one L
    induction L with
    | nil => intro G; rfl
    | cons e L ih => intro G; rw [List.foldl_cons, ih, putEnd_ps]
  unfold foldOne
  by_cases eq : min (rep F.ps a) (rep F.ps b) = max (rep F.ps a) (rep F.ps b)
  · simp only [eq, if_true]
  · simp only [eq, if_false]
    rw [this]; simp
theorem putEnd_other {F : Fo} {p x : Nat} (s : Int) (q : Nat) (h : x ≠ p) : endsOf (putEnd F p s q) x = endsOf F x := by
  unfold putEnd
  split
  · rfl
  · by_cases hp : p < F.es.length
    · rw [endsOf_set hp, if_neg h]
    · rw [List.set_eq_of_length_le (by omega)]
end FG
/-! The law's own laps: two places made one at a time. -/
namespace FG
/-- where a sign leads by the last edge -/
def lastOf (E : List Edge) : Dl := fun P s => (E.reverse.find? fun e => e.1 == P && e.2.1 == s).map (·.2.2)
theorem lastOf_nil (P : Nat) (s : Int) : lastOf [] P s = none := rfl
theorem lastOf_snoc (E : List Edge) (h : Nat) (t : Int) (q : Nat) (P : Nat) (s : Int) : lastOf (E ++ [(h, t, q)]) P s = if P = h ∧ s = t then some q else lastOf E P s := by
  unfold lastOf
  rw [List.reverse_append, List.reverse_singleton, List.singleton_append, List.find?_cons]
  by_cases c : P = h ∧ s = t
  · obtain ⟨rfl, rfl⟩ := c
    simp
  · rw [if_neg c]
    have : ((h == P) && (t == s)) = false := by
      simp only [Bool.and_eq_false_iff, beq_eq_false_iff_ne]
      by_cases c1 : P = h
      · right; intro z; exact c ⟨c1, z.symm⟩
      · left; exact fun z => c1 z.symm
    simp only [this]
theorem lastOf_mem {E : List Edge} {P : Nat} {s : Int} {Q : Nat} (h : lastOf E P s = some Q) : (P, s, Q) ∈ E := by
  unfold lastOf at h
  cases e : E.reverse.find? fun e => e.1 == P && e.2.1 == s with
  | none => rw [e] at h; cases h
  | some x =>
    rw [e] at h
    have h1 := List.mem_of_find?_eq_some e
    have h2 := List.find?_some e
    obtain ⟨a, b, c⟩ := x
    simp at h h1 h2
    obtain ⟨rfl, rfl⟩ := h2
    subst h
    exact h1
theorem lastOf_some {E : List Edge} {P : Nat} {s : Int} {Q : Nat} (h : (P, s, Q) ∈ E) : ∃ Q', lastOf E P s = some Q' := by
  unfold lastOf
  cases e : E.reverse.find? fun e => e.1 == P && e.2.1 == s with
  | none =>
    have := List.find?_eq_none.mp e (P, s, Q) (List.mem_reverse.mpr h)
    simp at this
  | some x => exact ⟨_, rfl⟩
/-- no sign leads from one place to two -/
def Func (E : List Edge) : Prop := ∀ P s Q Q', (P, s, Q) ∈ E → (P, s, Q') ∈ E → Q = Q'
theorem Func.last {E : List Edge} (f : Func E) {P : Nat} {s : Int} {Q : Nat} (h : (P, s, Q) ∈ E) : lastOf E P s = some Q := by
  obtain ⟨Q', e⟩ := lastOf_some h
  rw [e, f P s Q' Q (lastOf_mem e) h]
/-- what a lap's look finds -/
def Look (E : List Edge) : Option (Nat × Nat) → Prop
  | none => Func E
  | some (a, b) => a < b ∧ ∃ P s Q Q', (P, s, Q) ∈ E ∧ (P, s, Q') ∈ E ∧ min Q Q' = a ∧ max Q Q' = b
theorem Look.mono {E F : List Edge} (h : ∀ e ∈ E, e ∈ F) {a b : Nat} (l : Look E (some (a, b))) : Look F (some (a, b)) := by
  obtain ⟨h1, P, s, Q, Q', h2, h3, h4⟩ := l
  exact ⟨h1, P, s, Q, Q', h _ h2, h _ h3, h4⟩
theorem Look.hit {E : List Edge} {h : Nat} {t : Int} {q q0 : Nat} (e : lastOf E h t = some q0) (ne : q0 ≠ q) : Look (E ++ [(h, t, q)]) (some (min q0 q, max q0 q)) :=
  ⟨by omega, h, t, q0, q, by simp [lastOf_mem e], by simp, rfl, rfl⟩
theorem Look.skip {E : List Edge} {h : Nat} {t : Int} {q : Nat} {g : Option (Nat × Nat)} (l : Look E g) (e : ∀ q0, lastOf E h t = some q0 → q0 = q) : Look (E ++ [(h, t, q)]) g := by
  cases g with
  | some c => obtain ⟨a, b⟩ := c; exact Look.mono (fun e he => by simp [he]) l
  | none =>
    have f : Func E := l
    intro P s Q Q' h1 h2
    have key : ∀ {Q}, (P, s, Q) ∈ E ++ [(h, t, q)] → (P, s, Q) ∈ E ∨ (P = h ∧ s = t ∧ Q = q) := fun {Q} h1 => by
      rcases List.mem_append.mp h1 with z | z
      · exact .inl z
      · simp at z; exact .inr z
    rcases key h1 with z1 | ⟨e1, e2, e3⟩
    · rcases key h2 with z2 | ⟨e4, e5, e6⟩
      · exact f P s Q Q' z1 z2
      · subst e4 e5 e6
        exact e Q (f.last z1)
    · rcases key h2 with z2 | ⟨e4, e5, e6⟩
      · subst e1 e2 e3
        exact (e Q' (f.last z2)).symm
      · rw [e3, e6]
def ren (a b : Nat) (e : Edge) : Edge := (if e.1 = b then a else e.1, e.2.1, if e.2.2 = b then a else e.2.2)
structure Lap (E0 E : List Edge) (μ : Nat → Nat) (L : List Nat) : Prop where
  zero : μ 0 = 0
  idem : ∀ p, μ (μ p) = μ p
  edge : ∀ {p s q}, (p, s, q) ∈ E0 → (μ p, s, μ q) ∈ E
  back : ∀ {P s Q}, (P, s, Q) ∈ E → ∃ p q, (p, s, q) ∈ E0 ∧ μ p = P ∧ μ q = Q
  least : ∀ {R}, Cong E0 R → ∀ p q, μ p = μ q → R p q
  live : ∀ {P s Q}, (P, s, Q) ∈ E → P ∈ L ∧ Q ∈ L
theorem Lap.start {E0 : List Edge} {n : Nat} (h : ∀ p s q, (p, s, q) ∈ E0 → p < n ∧ q < n) : Lap E0 E0 id (List.range n) :=
  ⟨rfl, fun _ => rfl, fun h => h, fun h => ⟨_, _, h, rfl, rfl⟩, fun c p q e => by have : p = q := e; subst this; exact c.refl p, fun e => by
    obtain ⟨h1, h2⟩ := h _ _ _ e
    exact ⟨List.mem_range.mpr h1, List.mem_range.mpr h2⟩⟩
theorem Lap.step {E0 E E2 : List Edge} {μ : Nat → Nat} {L : List Nat} {a b : Nat} (l : Lap E0 E μ L) (k : Look E (some (a, b))) (h : ∀ e, e ∈ E2 ↔ ∃ e0 ∈ E, e = ren a b e0) :
    Lap E0 E2 (fun p => if μ p = b then a else μ p) (L.erase b) ∧ (L.erase b).length < L.length := by
  obtain ⟨lt, P, s, Q, Q', h1, h2, h3, h4⟩ := k
  have two : (Q = a ∧ Q' = b) ∨ (Q = b ∧ Q' = a) := by omega
  have la : a ∈ L := by
    rcases two with ⟨z, _⟩ | ⟨_, z⟩
    · rw [← z]; exact (l.live h1).2
    · rw [← z]; exact (l.live h2).2
  have lb : b ∈ L := by
    rcases two with ⟨_, z⟩ | ⟨z, _⟩
    · rw [← z]; exact (l.live h2).2
    · rw [← z]; exact (l.live h1).2
  have fixa : μ a = a := by
    have key : ∀ {Q}, (P, s, Q) ∈ E → μ Q = Q := fun {Q} h => by
      obtain ⟨p, q, _, _, rfl⟩ := l.back h
      exact l.idem q
    rcases two with ⟨z, _⟩ | ⟨_, z⟩
    · rw [← z]; exact key h1
    · rw [← z]; exact key h2
  have keep : ∀ {x}, x ∈ L → (if x = b then a else x) ∈ L.erase b := fun {x} hx => by
    by_cases c : x = b
    · rw [if_pos c]; exact (List.mem_erase_of_ne (by omega)).mpr la
    · rw [if_neg c]; exact (List.mem_erase_of_ne c).mpr hx
  refine ⟨⟨?_, fun p => ?_, fun {p t q} e => ?_, fun {P2 t Q2} e => ?_, fun {R} c p q e => ?_, fun {P2 t Q2} e => ?_⟩, ?_⟩
  · show (if μ 0 = b then a else μ 0) = 0
    rw [l.zero, if_neg (by omega)]
  · show (if μ (if μ p = b then a else μ p) = b then a else μ (if μ p = b then a else μ p)) = if μ p = b then a else μ p
    by_cases z : μ p = b
    · rw [if_pos z, fixa, if_neg (by omega)]
    · rw [if_neg z, l.idem, if_neg z]
  · exact (h _).mpr ⟨_, l.edge e, rfl⟩
  · obtain ⟨⟨x, y, z⟩, h5, h6⟩ := (h _).mp e
    obtain ⟨p, q, h7, rfl, rfl⟩ := l.back h5
    simp only [ren, Prod.mk.injEq] at h6
    obtain ⟨e1, e2, e3⟩ := h6
    subst e2
    exact ⟨p, q, h7, e1.symm, e3.symm⟩
  · have e : (if μ p = b then a else μ p) = if μ q = b then a else μ q := e
    obtain ⟨p1, q1, g1, g2, g3⟩ := l.back h1
    obtain ⟨p2, q2, g4, g5, g6⟩ := l.back h2
    have r1 : R p1 p2 := l.least c _ _ (g2.trans g5.symm)
    have r2 : R q1 q2 := c.next g1 g4 r1
    -- a and b are one by R
    have ab : ∀ x y, μ x = a → μ y = b → R x y := fun x y hx hy => by
      rcases two with ⟨z1, z2⟩ | ⟨z1, z2⟩
      · have u1 : R x q1 := l.least c _ _ (by rw [hx, g3, z1])
        have u2 : R q2 y := l.least c _ _ (by rw [hy, g6, z2])
        exact c.trans u1 (c.trans r2 u2)
      · have u1 : R x q2 := l.least c _ _ (by rw [hx, g6, z2])
        have u2 : R q1 y := l.least c _ _ (by rw [hy, g3, z1])
        exact c.trans u1 (c.trans (c.symm r2) u2)
    by_cases z1 : μ p = b
    · by_cases z2 : μ q = b
      · exact l.least c _ _ (z1.trans z2.symm)
      · rw [if_pos z1, if_neg z2] at e
        exact c.symm (ab q p e.symm z1)
    · by_cases z2 : μ q = b
      · rw [if_neg z1, if_pos z2] at e
        exact ab p q e z2
      · rw [if_neg z1, if_neg z2] at e
        exact l.least c _ _ e
  · obtain ⟨⟨x, y, z⟩, h5, h6⟩ := (h _).mp e
    simp only [ren, Prod.mk.injEq] at h6
    obtain ⟨e1, e2, e3⟩ := h6
    obtain ⟨l1, l2⟩ := l.live h5
    rw [e1, e3]
    exact ⟨keep l1, keep l2⟩
  · rw [List.length_erase_of_mem lb]
    have := List.length_pos_of_mem lb
    omega
theorem Lap.quot {E0 E : List Edge} {μ : Nat → Nat} {L : List Nat} (l : Lap E0 E μ L) (f : Func E) : Quot E0 μ (lastOf E) :=
  ⟨l.zero, l.idem, fun e => f.last (l.edge e), fun _ h => l.back (lastOf_mem h), fun c => l.least c⟩
end FG
/-! Own rules beside the hand layer: t[::-1], enumerate(t), t * k, of tuples; repr of data. -/
namespace OW
open PySem PySem.Spec PyProof.Rows L2 HT

/-! ### a tuple turned round -/
section
variable {prog : Program} {w : World} {A : Around} {E : Value → Shared → Prop} {s : Shared}
theorem places_back (n : Nat) : Builtin.Slice.slicePlaces ((n : Int) - 1) (-1) (-1) = n := by
  unfold Builtin.Slice.slicePlaces
  have no : ¬ ((-1 : Int) > 0) := by decide
  simp only [no, if_false]
  by_cases h : (n : Int) - 1 > -1
  · rw [if_pos h]
    have e : ((n : Int) - 1 - -1 - 1) / - -1 = (n : Int) - 1 := by
      rw [show (- -1 : Int) = 1 by decide, Int.ediv_one]; omega
    rw [e]; omega
  · rw [if_neg h]
    have : n = 0 := by omega
    subst this; rfl
theorem applied_back {sl : Addr} {vs : Value} {n : Nat} {Q : Int × Int × Nat → Shared → Prop} (hs : s.heap.IsSliceOf sl .none .none vs) (ps : IsPart vs (some (-1)))
    (h : Q ((n : Int) - 1, -1, n) s) : wpAny (model prog w) A (Builtin.Slice.sliceApplied (.ref sl) (pure (n : Int))) Q E s := by
  obtain ⟨os, hos, hcs, hds⟩ := id hs
  unfold Builtin.Slice.sliceApplied Builtin.Slice.sliceFields
  refine wpAny_bind (wpAny_bind (wpAny_field hos hds (x := .none) rfl (wpAny_bind (wpAny_field hos hds (x := .none) rfl (wpAny_bind (wpAny_field hos hds (x := vs) rfl (wpAny_pure ?_)))))))
  refine wpAny_bind (slicePart_ ps ?_)
  show wpAny _ _ (if ((-1 : Int) == 0) = true then _ else _) _ _ s
  rw [if_neg (by decide)]
  refine wpAny_bind (slicePart_ IsPart.none (wpAny_bind (slicePart_ IsPart.none (wpAny_bind (wpAny_pure ?_)))))
  show wpAny _ _ (pure ((n : Int) - 1, (-1 : Int), Builtin.Slice.slicePlaces ((n : Int) - 1) (-1) (-1))) _ _ s
  rw [places_back]
  exact wpAny_pure h
theorem fm_congr {α β : Type} {f g : α → Option β} : ∀ {l : List α}, (∀ a ∈ l, f a = g a) → l.filterMap f = l.filterMap g
  | [], _ => rfl
  | a :: l, h => by
    rw [List.filterMap_cons, List.filterMap_cons, h a (by simp), fm_congr (l := l) fun b hb => h b (by simp [hb])]
theorem pick_back (xs : Array Value) : ((List.range xs.size).filterMap fun (m : Nat) => xs[(((xs.size : Int) - 1) + (m : Int) * -1).toNat]?).toArray = xs.toList.reverse.toArray := by
  congr 1
  have e : (List.range xs.size).filterMap (fun (m : Nat) => xs[(((xs.size : Int) - 1) + (m : Int) * -1).toNat]?) = ((List.range xs.size).map fun k => xs.size - 1 - k).filterMap (xs[·]?) := by
    rw [List.filterMap_map]
    refine fm_congr fun m hm => ?_
    have := List.mem_range.mp hm
    show xs[(((xs.size : Int) - 1) + (m : Int) * -1).toNat]? = xs[xs.size - 1 - m]?
    congr 1; omega
  rw [e, PySem.W.krv_range, List.filterMap_reverse, PySem.W.krv_all]
theorem item_back {t sl : Addr} {items : Array Value} {vs : Value} {Q : Value → Shared → Prop} (ht : IsTup s.heap t items) (hs : s.heap.IsSliceOf sl .none .none vs) (ps : IsPart vs (some (-1)))
    (h : Q (.ref s.heap.objs.size) { s with heap := s.heap.push { cls := .type "tuple", data := .seq items.toList.reverse.toArray } }) (hsz : items.size ≤ sizeLine) :
    wpAny (model prog w) A (getItem (.ref t) (.ref sl)) Q E s := by
  have fits : sizeOk (.seq items.toList.reverse.toArray) := by
    show items.toList.reverse.toArray.size ≤ sizeLine
    simpa using hsz
  obtain ⟨os, hos, hcs, hds⟩ := id hs
  have hTs : s.TypeIs (.ref sl) "slice" := ⟨os, hos, hcs⟩
  unfold getItem
  try with_reducible refine wpAny_holding ?_
  first | refine wpAny_bind (wpAny_pure ?_) | skip
  refine wpAny_bind (wpAny_sequenceKey ht.typeIs (by decide) ?_)
  refine wpAny_bind (wpAny_callSpecial?_slot (name := Str.ofString "__getitem__") ht.typeIs PyProof.Rows.slot_tuple_getitem (wpAny_call_entry PyProof.Rows.slot_tuple_getitem ht.typeIs entry_tuple_getitem ?_ (args_tuple_getitem _ _)))
  show wpAny _ _ (Builtin.Tuple.tupleItemsOf (.ref t) >>= _) _ _ s
  refine wpAny_bind (tupleItemsOf_ ht (wpAny_bind (wpAny_typeOf hTs ?_)))
  rw [if_pos (by decide)]
  refine wpAny_bind (applied_back hs ps ?_)
  have hno : ¬ ((((items.size : Int) - 1) == 0 && (-1 : Int) == 1 && items.size == items.size) = true) := by simp
  show wpAny _ _ (if (((items.size : Int) - 1) == 0 && (-1 : Int) == 1 && items.size == items.size) = true then _ else _) _ _ s
  rw [if_neg hno, pick_back]
  first
    | exact wpAny_bind (m := Builtin.Tuple.tupleExact _) (wpAny_newObj_type (wpAny_pure ⟨_, rfl, wpAny_pure h⟩) fits)
    | exact wpAny_bind (m := Builtin.Tuple.tupleExact _) (wpAny_newObj_type (wpAny_bind (wpAny_pure (wpAny_pure ⟨_, rfl, wpAny_pure h⟩))) fits)
    | exact wpAny_bind (wpAny_bind (m := Builtin.Tuple.tupleExact _) (wpAny_newObj_type (wpAny_pure (wpAny_pure ⟨_, rfl, wpAny_pure h⟩)) fits))
    | exact wpAny_bind (wpAny_bind (m := Builtin.Tuple.tupleExact _) (wpAny_newObj_type (wpAny_pure ⟨_, rfl, wpAny_pure h⟩) fits))
end
section
variable {X : Cx}
def tRevT (K : PySem.W.Frag) (te : TE) : TE := fun σ H Q => te σ H fun x H1 => ∃ a xs, x = .ref a ∧ SqT K H1 a xs ∧ ∀ p, H1 p = none → Q (.ref p) (upd H1 p (.tup xs.reverse))
theorem pe_revT {e : Expr} {te : TE} {k : Nat} {p1 p2 p3 pos : Pos} (he : PE X e te) : PE X (.Subscript e (.Slice none none (some (.UnaryOp .USub (.Constant (.int 1) k p1) p2)) p3) pos) (tRevT X.K te) := by
  refine ⟨fun pins s σ H Q I h => Subscript_ (thn (he.run pins s σ H _ I h) fun v s1 ⟨x, H1, I1, r1, a, xs, ex, hx, q⟩ => ?_)⟩
  subst ex
  cases r1
  have stp : PO X (some (.UnaryOp .USub (.Constant (.int 1) k p1) p2)) (tPart (tUn (rU fun i => .int (-i)) (tC (.int 1)))) := po_some (pe_un un_neg pe_int)
  refine wpAny_Slice (thn (po_none.run pins s1 σ H1 (fun o G => o = none ∧ G = H1) I1 ⟨rfl, rfl⟩) fun vl s2 ⟨l, H2, I2, pl, el, e2⟩ => ?_)
  subst el e2
  refine thn (po_none.run pins s2 σ H2 (fun o G => o = none ∧ G = H2) I2 ⟨rfl, rfl⟩) fun vu s3 ⟨u, H3, I3, pu, eu, e3⟩ => ?_
  subst eu e3
  refine thn (stp.run pins s3 σ H3 (fun o G => o = some (-1) ∧ G = H3) I3 ⟨1, rfl, -1, rfl, rfl, rfl⟩) fun vs s4 ⟨o, H4, I4, ps, eo, e4⟩ => ?_
  subst eo e4
  cases pl
  cases pu
  have I5 : Inv X pins σ H4 { s4 with heap := s4.heap.push { cls := .type "slice", data := .fields #[.none, .none, vs] } } := I4.kept (t' := s4.toks) fun b ob z => Heap.get?_push_of_some _ z
  obtain ⟨its, r, ht, hz⟩ := I5.tuple hx
  have hlen := r.length
  show wpAny (model X.prog X.w) X.A (subscriptTail e (.Slice none none (some (.UnaryOp .USub (.Constant (.int 1) k p1) p2)) p3) (.ref a) (.ref s4.heap.objs.size)) (EP X pins σ Q) X.xe { s4 with heap := s4.heap.push { cls := .type "slice", data := .fields #[.none, .none, vs] } }
  refine tail_any (ops := [.ref a, .ref s4.heap.objs.size]) ht.typeIs (PyProof.Rows.slot_tuple_getitem.lookup) ?_ (by with_unfolding_all rfl)
  refine item_back ht (Heap.IsSliceOf.new _ .none .none vs) ps ?_ (by rw [List.size_toArray]; omega)
  refine ⟨.ref _, _, I5.laid (t' := s4.toks) (o := .tup xs.reverse) (fun b ob z => Heap.get?_push_of_some _ z) (Nat.le_refl _) ?_, rfl, q _ (I5.hok.fresh (Nat.le_refl _))⟩
  exact ⟨by rw [List.length_reverse]; exact hz, its.reverse, r.reverse, IsTup.new _ _⟩
end
end OW
namespace OW
open PySem PySem.Spec PyProof.Rows L2 HT

/-! ### enumerate of a tuple -/
set_option maxHeartbeats 1000000 in
theorem meets_enum1 {v : Value} {o : Obj} {G : Heap → Prop} (B : Begins v o G) :
    Meets (Builtin.«enumerate.__new__» ⟨[.type "enumerate", v], []⟩) (fun _ R s => G s.heap ∧
      R (.ok (.ret (.ref (s.heap.push o).objs.size))) { s with heap := (s.heap.push o).push { cls := .type "enumerate", data := .fields #[.none, .bool false, .ref s.heap.objs.size, rawInt 0, .none, .none] } }) :=
  .of_wp fun prog w A R s hh => by
    obtain ⟨hp, g, d, tk, os⟩ := s
    obtain ⟨h1, h⟩ := hh
    have hsub := sub_enumerate
    have q1 : ∀ {A' : Around} {E : Value → Shared → Prop} {Q : Value → Shared → Prop}, Q (.ref hp.objs.size) ⟨hp.push o, g, d, tk, os⟩ → wpAny (model prog w) A' (pyIter v) Q E ⟨hp, g, d, tk, os⟩ :=
      fun q => B.iter prog w _ _ ⟨hp, g, d, tk, os⟩ _ h1 q
    wp_walk using q1
    refine wpAny_stack_any fun st => wpAny_pure ?_
    split
    · rename_i c _ _ _ _ _
      cases (c == Value.type "enumerate") <;> (wp_walk using q1; exact ⟨_, rfl, h⟩)
    · wp_walk using q1
      exact ⟨_, rfl, h⟩
section
variable {prog : Program} {w : World} {A : Around} {E : Value → Shared → Prop} {s : Shared}
theorem call_enum1 {v : Value} {o : Obj} {G : Heap → Prop} {Q : Value → Shared → Prop} (B : Begins v o G) (h1 : G s.heap)
    (h : ∀ h', IsEnum h' (s.heap.objs.size + 1) s.heap.objs.size 0 .none → h'.get? s.heap.objs.size = some o → h'.objs.size = s.heap.objs.size + 2 → (∀ b u, s.heap.get? b = some u → h'.get? b = some u) → Q (.ref (s.heap.objs.size + 1)) { s with heap := h' }) :
    wpAny (model prog w) A (call (.type "enumerate") [v]) Q E s := by
  have sz : (s.heap.push o).objs.size = s.heap.objs.size + 1 := Heap.size_push ..
  have en : ∀ u, ((s.heap.push o).push u).objs.size = s.heap.objs.size + 2 := fun u => by rw [Heap.size_push, sz]
  refine callType_new F.called_enumerate (by decide) (F.typeCall_enumerate_1 _) (F.newCall_enumerate_1 _) (fun obj => F.args_object_init_2 obj _) F.entry_enumerate_new (meets_enum1 B) ⟨h1, ?_⟩
  have he := Heap.get?_push_size (s.heap.push o) (o := { cls := .type "enumerate", data := .fields #[.none, .bool false, .ref s.heap.objs.size, rawInt 0, .none, .none] }) rfl
  show _ ∧ _
  rw [sz] at he ⊢
  exact ⟨⟨_, he, rfl⟩, h _ he (Heap.get?_push_of_some _ (Heap.get?_push_size _ B.free)) (en _) fun b u x => Heap.get?_push_of_some _ (Heap.get?_push_of_some _ x)⟩
end
/-- the tuple at a, its items with their numbers, in new pairs -/
def IteT (K : PySem.W.Frag) (a : Addr) : It :=
  ⟨fun i H => ∃ (xs : List V) (x : V), SqT K H a xs ∧ xs[i]? = some x, fun i H v H' => ∃ T x, v = .ref T ∧ H T = none ∧ H' = upd H T (.tup [.int (i : Nat), x]) ∧ ∀ xs, SqT K H a xs → xs[i]? = some x, fun i H => ∃ xs : List V, SqT K H a xs ∧ xs.length = i⟩
theorem two_mem {b e it : Addr} (h : b ∈ [e, it]) : b = e ∨ b = it := by simpa using h
theorem turn_enumT {P : Program} {w : World} {K : PySem.W.Frag} {elts : List Expr} {kk : Nat} {tpos : Pos} (a e it : Addr) :
    Turn P w K (.Tuple elts kk tpos) (IteT K a) [e, it] e (fun i h => (∃ old, IsEnum h e it ((i : Nat) : Int) old) ∧ h.IsTupleIter it a i ∧ e ≠ it) where
  mem := List.mem_cons_self
  obj := fun i h st b hb => by
    obtain ⟨⟨old, he⟩, ⟨o, ho, hc, hd⟩, _⟩ := st
    rcases two_mem hb with z | z <;> rw [z]
    · exact ⟨_, he, fun v q => nomatch q⟩
    · exact ⟨o, ho, fun v q => by rw [hd] at q; cases q⟩
  keep := fun i h h' st k => by
    obtain ⟨⟨old, he⟩, ⟨o, ho, hc, hd⟩, hne⟩ := st
    exact ⟨⟨old, k e List.mem_cons_self _ he⟩, ⟨o, k it (by simp) _ ho, hc, hd⟩, hne⟩
  item := by
    intro X hP hw hK hc i pins s σ H E I hf st hg
    subst hP hw hK
    obtain ⟨⟨old, he⟩, hit, hne⟩ := st
    obtain ⟨xs, x, hq, hx⟩ := hg
    obtain ⟨its, rv, p, hz⟩ := I.tuple hq
    obtain ⟨u, hu, ru⟩ := rv.get hx
    have lt : i < its.toArray.size := by
      have := (List.getElem?_eq_some_iff.mp hu).1
      simpa using this
    have nat : a ≠ it := by
      rintro rfl
      obtain ⟨o, h1, h2, _⟩ := hit
      obtain ⟨o', h3, h4, _⟩ := p
      rw [h1] at h3; cases h3
      rw [h2] at h4; exact absurd h4 (by decide)
    have hel : e < s.heap.objs.size := Heap.lt_size he
    have hil : it < s.heap.objs.size := by obtain ⟨_, q, _⟩ := hit; exact Heap.lt_size q
    have nae : a ≠ e := by
      rintro rfl
      obtain ⟨o', h3, h4, _⟩ := p
      rw [he] at h3; cases h3
      exact absurd (show Value.type "tuple" = Value.type "enumerate" from h4.symm) (by decide)
    refine wpAny_pyNext_enum_itemD (Draws.tuple (A := X.A.in1) (I.ok.hd hc) it a nat its.toArray) he ⟨hit, p⟩ lt hne (by simp [hne, Ne.symm nae]) fun y h' tk hy ho hit' hT hsz hk => ?_
    have yu : y = u := by
      have h1 : its.toArray[i]? = some y := hy
      rw [List.getElem?_toArray, hu] at h1
      exact (Option.some.inj h1).symm
    subst yu
    refine ⟨_, rfl, wpAny_letOwnedTupleGo_enum (s := { s with heap := h', toks := tk + 1 }) ho fun h'' he' sb => ?_⟩
    have tup2 : h''.get? s.heap.objs.size = some { cls := .type "tuple", data := .seq #[.int i tk, y] } := (sb.2 _ (Nat.ne_of_gt hel)).trans hT
    have new : ObjOk X.prog X.w (upd H s.heap.objs.size (.tup [.int (i : Nat), x])) h'' s.heap.objs.size (.tup [.int (i : Nat), x]) :=
      ⟨by show 2 ≤ sizeLine; decide, [.int i tk, y], .cons ⟨_, rfl⟩ (.cons ru .nil), ⟨_, tup2, rfl, _, rfl⟩⟩
    have I1 : Inv X pins σ (upd H s.heap.objs.size (.tup [.int (i : Nat), x])) { s with heap := h'', toks := tk + 1 } :=
      I.turnedNew (ch := [e, it]) (fun b ob hb q => (sb.2 b (fun z => hb (by simp [z]))).trans (hk b ob (fun z => hb (by simp [z])) (fun z => hb (by simp [z])) q)) hf (Nat.le_refl _) new
    refine ⟨.ref s.heap.objs.size, _, I1, rfl, ⟨_, x, rfl, I.hok.fresh (Nat.le_refl _), rfl, fun ys hy => by rw [I.tuple_inj hy hq]; exact hx⟩, ⟨⟨y, ?_⟩, hit'.1.at fun o q => (sb.2 it (Ne.symm hne)).trans q, hne⟩, fun b hb => ?_⟩
    · rw [show ((i + 1 : Nat) : Int) = (i : Int) + 1 by omega]
      exact he'
    · have below : b < s.heap.objs.size := by rcases two_mem hb with z | z <;> rw [z] <;> assumption
      rw [upd_ne (Nat.ne_of_lt below)]
      exact (hf b hb).1
  done := by
    intro X hP hw hK hc i pins s σ H E I hf st hg
    subst hP hw hK
    obtain ⟨⟨old, he⟩, hit, hne⟩ := st
    obtain ⟨xs, hq, hx⟩ := hg
    obtain ⟨its, rv, p, hz⟩ := I.tuple hq
    obtain ⟨f0, f1, f2, f3, f4, f5⟩ := hf it (by simp)
    have hl := rv.length
    have nat : a ≠ it := by
      rintro rfl
      obtain ⟨o, h1, h2, _⟩ := hit
      obtain ⟨o', h3, h4, _⟩ := p
      rw [h1] at h3; cases h3
      rw [h2] at h4; exact absurd h4 (by decide)
    have ei : i = its.toArray.size := by rw [List.size_toArray]; omega
    subst ei
    exact wpAny_pyNext_enum_endD (Draws.tuple (A := X.A.in1) (I.ok.hd hc) it a nat its.toArray) he ⟨hit, p⟩ fun h' eb => ⟨rfl, I.turned (t' := s.toks) (fun b o hb q => eb b o hb q) f0 f1 f3 f4 f5⟩
  self := fun A i s Q E st h => let ⟨⟨_, he⟩, _⟩ := st; wpAny_pyIter_enum he h
def iEnumT (K : PySem.W.Frag) (ta : TA) : TI := fun σ H R => ta σ H fun vs H1 => ∃ a xs, vs = [.ref a] ∧ SqT K H1 a xs ∧ R (IteT K a) H1
theorem pi_enumT {X : Cx} {e : Expr} {ta : TA} {p pos tpos : Pos} {elts : List Expr} {kk : Nat} (hg : Gl X "enumerate") (hm : X.mg "enumerate" = none) (ha : PA X [e] ta) (hs : starEach [e] X.env = [(false, eval e X.env)] := by rfl) :
    PI X (.Tuple elts kk tpos) (.Call (.Name "enumerate" p) [e] [] pos) (iEnumT X.K ta) := by
  refine ⟨fun pins s σ H R I h => Call_ (ld_blt I hg hm boot_enumerate (PyProof.Rows.callWith_type1 (thn (ha.run pos pins s σ H _ I h) fun us s1 ⟨vs, H1, I1, r1, a, xs, ex, hq, q⟩ => ?_) hs rfl))⟩
  subst ex
  cases r1 with
  | cons r rr =>
    cases rr
    cases r
    obtain ⟨its, rv, p', hz⟩ := I1.tuple hq
    refine call_enum1 (begins_tuple a its.toArray) p' fun h' he hit hsz hk => wpAny_pyIter_enum he ?_
    have I2 : Inv X pins σ H1 { s1 with heap := h' } := I1.kept (t' := s1.toks) hk
    refine ⟨s1.heap.objs.size + 1, [s1.heap.objs.size + 1, s1.heap.objs.size], _, _, H1, rfl, I2, turn_enumT a (s1.heap.objs.size + 1) s1.heap.objs.size, ⟨⟨.none, he⟩, ⟨_, hit, rfl, rfl⟩, Nat.succ_ne_self _⟩, fun b hb => ?_, q⟩
    have above : s1.heap.objs.size ≤ b := by
      rcases two_mem hb with z | z <;> rw [z]
      · exact Nat.le_add_right _ _
      · exact Nat.le_refl _
    exact I1.fpOk above (I1.hok.fresh above)
theorem walk_enumT {K : PySem.W.Frag} {a : Addr} {xs : List V} : Walk (IteT K a) xs.length (fun H => SqT K H a xs) (YPair (fun i => some (.int (i : Nat))) (fun i => xs[i]?)) := by
  refine ⟨fun i _ hi q => ⟨xs, xs[i], q, by simp [hi]⟩, fun _ q => ⟨xs, q, rfl⟩, fun i H v H' _ q y => ?_⟩
  obtain ⟨T, x, h1, h2, h3, h4⟩ := y
  exact ⟨T, .int (i : Nat), x, h1, h2, h3, rfl, h4 xs q⟩
end OW
namespace OW
open PySem PySem.Spec PyProof.Rows L2 HT

/-! ### dict of pairs whose keys are tuples -/
def mergeT (kvs more : List (List Key × V)) : List (List Key × V) := more.foldl (fun acc kv => putK acc kv.1 kv.2) kvs
/-- the pairs that stand at ps: each a tuple of a key's tuple and a value -/
def PairsT (K : PySem.W.Frag) (H : Hp) (ps : List Addr) (kvs : List (List Key × V)) : Prop := Paired (fun p kv => ∃ b, SqT K H p [.ref b, kv.2] ∧ H b = some (.tup (kv.1.map kV))) ps kvs
theorem kt_all {H : Hp} : ∀ {kvs : List (List Key × V)} {xs : List (List Key × Addr × Value)} {kvs0 : List (List Key × V)} {xs0 : List (List Key × Addr × Value)}, KT H kvs xs → KT H kvs0 xs0 → KT H (mergeT kvs0 kvs) (storedAllH xs0 xs) := by
  intro kvs xs kvs0 xs0 r
  unfold KT at r
  induction r generalizing kvs0 xs0 with
  | nil => exact id
  | cons h t ih =>
    intro r0
    obtain ⟨h1, h2, h3⟩ := h
    rename_i p q _ _
    have := r0.put p.1 h2 h3
    refine ih ?_
    show KT H (putK _ p.1 p.2) (storedH _ q.1 q.2.1 q.2.2)
    rw [← h1]
    exact this
theorem len_mergeT : ∀ (more kvs : List (List Key × V)), (mergeT kvs more).length ≤ kvs.length + more.length
  | [], kvs => by simp [mergeT]
  | kv :: more, kvs => by
    have h1 := len_mergeT more (putK kvs kv.1 kv.2)
    have h2 := length_putK kvs kv.1 kv.2
    have e : mergeT kvs (kv :: more) = mergeT (putK kvs kv.1 kv.2) more := rfl
    rw [e, List.length_cons]; omega
section
variable {X : Cx} {pins : List (Addr × Obj)} {σ : L2.St} {H : Hp} {s : Shared}
theorem pairsT_of (I : Inv X pins σ H s) : ∀ {ps : List Addr} {kvs : List (List Key × V)}, PairsT X.K H ps kvs → ∃ xs : List (List Key × Addr × Value), KT H kvs xs ∧ xs.length = ps.length ∧
    ∀ (j : Nat) (k : List Key) (b : Addr) (v : Value), xs[j]? = some (k, b, v) → ∃ p, ps[j]? = some p ∧ s.heap.IsTuple p #[.ref b, v] := by
  intro ps kvs h
  unfold PairsT at h
  induction h with
  | nil => exact ⟨[], .nil, rfl, fun j k b v e => by simp at e⟩
  | @cons p kv _ _ h t ih =>
    obtain ⟨b, hp, hb⟩ := h
    obtain ⟨xs, r, hl, hx⟩ := ih
    obtain ⟨its, rv, ht, _⟩ := I.tuple hp
    obtain ⟨u, y, ei, ru, ry⟩ := vals2 rv
    subst ei
    cases ru
    refine ⟨(kv.1, b, y) :: xs, .cons ⟨rfl, hb, ry⟩ r, by simp [hl], fun j k b' v e => ?_⟩
    cases j with
    | zero =>
      simp only [List.getElem?_cons_zero, Option.some.injEq, Prod.mk.injEq] at e
      obtain ⟨_, rfl, rfl⟩ := e
      exact ⟨p, rfl, ht⟩
    | succ j =>
      obtain ⟨p', e1, e2⟩ := hx j k b' v (by simpa using e)
      exact ⟨p', by simpa using e1, e2⟩
end
section
variable {X : Cx}
def rDictT (K : PySem.W.Frag) : List V → Hp → VK → Prop := fun xs H Q => ∃ (a : Addr) (ps : List Addr) (kvs : List (List Key × V)), xs = [.ref a] ∧ H a = some (.lst (ps.map V.ref)) ∧ PairsT K H ps kvs ∧ ∀ p, H p = none → Q (.ref p) (upd H p (.dT (mergeT [] kvs)))
theorem call_dictT (hc : X.calm = true) (hu : X.A.units + 64 < cLine) : CallR X (.type "dict") (rDictT X.K) := by
  intro pins s σ H xs us Q I r q
  obtain ⟨a, ps, kvs, ex, hq, hp, q⟩ := q
  subst ex
  obtain ⟨u, eu, rx⟩ := vals1 r
  subst eu
  cases rx
  obtain ⟨hz, its, n, rv, ho⟩ := I.hok a _ hq
  have ei := refs_at rv
  subst ei
  rw [List.length_map] at hz
  obtain ⟨es, rel, hl, hpr⟩ := pairsT_of I hp
  have P := PySem.PairArg.list (prog := X.prog) (w := X.w) a (ps.map Value.ref).toArray (fun j => ps.getD j 0) (es.map fun x => (Value.ref x.2.1, x.2.2))
  refine PySem.call_dict_pairsH (knd := tupleKind (mixKind X.prog X.w)) (ps := es) P (I.ok.hd hc) (by show X.A.units + 1 + 1 < cLine; omega) ⟨⟨_, n, ho, rfl, rfl, rfl⟩, by simp [hl], fun j k v e => ?_⟩ ⟨by simp, fun i key v e => ?_⟩ (fun h' hk x hx => ?_) (by simp only [List.length_map]; omega) fun h' tk hd' hk => ?_
  · rw [List.getElem?_map] at e
    cases ex : es[j]? with
    | none => rw [ex] at e; cases e
    | some x =>
      rw [ex] at e
      simp only [Option.map_some, Option.some.injEq, Prod.mk.injEq] at e
      obtain ⟨p, h1, h2⟩ := hpr j x.1 x.2.1 x.2.2 ex
      refine ⟨by simp [h1], .inl ?_⟩
      rw [← e.1, ← e.2]
      show s.heap.IsTuple (ps.getD j 0) _
      rw [List.getD_eq_getElem?_getD, h1]
      exact h2
  · have e : (es.map fun x => (Value.ref x.2.1, x.2.2))[i]? = some (key, v) := e
    rw [List.getElem?_map] at e
    cases ex : es[i]? with
    | none => rw [ex] at e; cases e
    | some x =>
      rw [ex] at e
      simp only [Option.map_some, Option.some.injEq, Prod.mk.injEq] at e
      exact ⟨x.1, x.2.1, by rw [← e.2], e.1.symm⟩
  · have key : ∀ {l : List (List Key × V)} {m : List (List Key × Addr × Value)}, KT H l m → ∀ x ∈ m, (tupleKind (mixKind X.prog X.w)).is h' x.1 x.2.1 := by
      intro l m r
      unfold KT at r
      induction r with
      | nil => intro x hx; exact nomatch hx
      | cons h t ih =>
        intro x hx
        rcases List.mem_cons.mp hx with e | hx
        · subst e
          obtain ⟨o, it, n, h1, h2, h3, h4⟩ := key_of I.hok (a := x.2.1) (ks := x.1) (by rw [← h.1]; exact h.2.1)
          exact ⟨o, it, n, hk _ _ (Nat.ne_of_lt (Heap.lt_size h1)) (by simp) h1, h2, h3, h4⟩
        · exact ih x hx
    exact key rel x hx
  · have hm : (s.heap.objs.size == sysModules) = false := beq_eq_false_iff_ne.mpr (Nat.ne_of_gt I.big)
    have kt := kt_all rel (kvs0 := []) (xs0 := []) .nil
    have hlen : (mergeT [] kvs).length ≤ sizeLine := by
      have h1 := len_mergeT kvs []
      have h2 := Paired.length rel
      simp only [List.length_nil, Nat.zero_add] at h1
      omega
    obtain ⟨o, ds, ep, h1, h2, h3, h4, _, h5⟩ := hd'
    have hn := I.hok.fresh (a := s.heap.objs.size) (Nat.le_refl _)
    exact ⟨.ref s.heap.objs.size, upd H s.heap.objs.size (.dT (mergeT [] kvs)), I.laid (t' := tk) (fun b o e => hk b o (by simp) e) (Nat.le_refl _) ⟨hlen, hm, _, kt.keeps fun b ys e => by rw [upd_ne (ne_of_none e hn)]; exact e, o, ds, ep, h1, h2, h3, h4, h5⟩, rfl, q _ hn⟩

/-! ### repr of data, where nothing is being shown -/
def rRepr (K : PySem.W.Frag) : List V → Hp → VK → Prop := fun xs H Q => ∃ v d, xs = [v] ∧ Dp K H v d ∧ d.showable = true ∧ d.hasDict = false ∧ d.depth ≤ 30 ∧ d.shown.length ≤ sizeLine ∧ Q (.str d.shown) H
theorem call_repr (hg : X.A.guards = some []) (hu : X.A.units + 64 < cLine) : CallR X (.builtin "repr") (rRepr X.K) := by
  intro pins s σ H xs us Q I r q
  obtain ⟨v, d, ex, hd, h1, h2, h4, h5, q⟩ := q
  subst ex
  obtain ⟨u, eu, rx⟩ := vals1 r
  subst eu
  obtain ⟨as, rd⟩ := Dp.reads I d v u hd rx
  have disp : isDisplay d = true → wpAny (model X.prog X.w) X.A (call (.builtin "repr") [u]) (EP X pins σ Q) X.xe s := fun h3 => by
    obtain ⟨a, rfl⟩ := isRef_of_reads rd h3
    refine repr_of_reads' rd h1 (PyData.noDict_hsm h2) hg (by omega) (fun _ _ e => e) (fun h' t tk hk => ?_) h5
    exact ⟨.str d.shown, H, I.kept (t' := tk) hk, ⟨t, rfl⟩, q⟩
  cases d with
  | none =>
    cases rd
    exact PySem.P.repr_of_none ⟨.str _, H, I.tok _, ⟨_, rfl⟩, by simpa only [PyData.shown] using q⟩
  | bool b =>
    cases rd
    exact PySem.P.repr_of_bool ⟨.str _, H, I.tok _, ⟨_, rfl⟩, by simpa only [PyData.shown] using q⟩
  | int i =>
    cases rd
    have z : i.natAbs.log2 < 1920 := by simpa [PyData.showable] using h1
    exact PySem.P.repr_of_int z ⟨.str _, H, I.tok _, ⟨_, rfl⟩, by simpa only [PyData.shown] using q⟩
  | str x =>
    cases rd
    exact PySem.P.repr_of_str ⟨.str _, H, I.tok _, ⟨_, rfl⟩, by simpa only [PyData.shown] using q⟩ (by simpa only [PyData.shown] using h5)
  | list xs => exact disp rfl
  | tuple xs => exact disp rfl
  | dict kvs => simp [PyData.hasDict] at h2
end
end OW
namespace OW
open PySem PySem.Spec PyProof.Rows L2 HT
open C8 (Cal Met Mak pe_c pe_mt pe_mt0 pe_mk)
/-- a tuple is handed on: an old one, or a new one -/
def RetT (K : PySem.W.Frag) (xs : List V) (H : Hp) (Q : VK) : Prop := ∀ p H', Same H H' → SqT K H' p xs → Q (.ref p) H'
theorem _root_.L2.Same.new {H : Hp} {p : Addr} {o : HO} (h : H p = none) : Same H (upd H p o) := fun b u e => by
  rw [upd_ne (ne_of_none e h)]; exact e
theorem RetT.old {K : PySem.W.Frag} {xs : List V} {H : Hp} {Q : VK} (k : RetT K xs H Q) {p : Addr} (h : SqT K H p xs) : Q (.ref p) H := k p H (Same.refl H) h
theorem RetT.new {K : PySem.W.Frag} {xs : List V} {H : Hp} {Q : VK} (k : RetT K xs H Q) : ∀ p, H p = none → Q (.ref p) (upd H p (.tup xs)) := fun p hp => k p _ (Same.new hp) (SqT.of upd_same)

/-! ### t * k -/
theorem tuple_mul1 (l : Addr) (items : Array Value) (n : Nat) (sl : Array (Option Value)) (dd : Option Addr) (x : Int) (u : Tok) (c0 : (decide (x < -(2 ^ 63)) || decide (x ≥ 2 ^ 63)) = false) (c1 : (items.isEmpty || x == 1) = true) :
    Meets (Builtin.«tuple.__mul__» ⟨[.ref l, .int x u], []⟩) (fun _ R s => s.heap.get? l = some { cls := .type "tuple", dict := dd, data := .seq items n, slots := sl } ∧ R (.ok (.ret (.ref l))) s) :=
  .of_wp fun prog w A R s hh => by
    obtain ⟨hp, g, d, tk, os⟩ := s
    obtain ⟨hl, h⟩ := hh
    have f1 := AutoSeq1.idx_int
    wp_walk using wpAny_loadPart' hl
    refine wpAny_ite_false (decide_eq_false (by rw [c0]; exact Bool.false_ne_true)) ?_
    wp_walk using wpAny_loadPart' hl
    exact ⟨_, rfl, h⟩
theorem tuple_mul0 (l : Addr) (items : Array Value) (n : Nat) (sl : Array (Option Value)) (dd : Option Addr) (x : Int) (u : Tok) (c0 : (decide (x < -(2 ^ 63)) || decide (x ≥ 2 ^ 63)) = false) (c1 : (items.isEmpty || x == 1) = false) (c2 : (decide (x ≤ 0) || items.isEmpty) = true) :
    Meets (Builtin.«tuple.__mul__» ⟨[.ref l, .int x u], []⟩) (fun _ R s => s.heap.get? l = some { cls := .type "tuple", dict := dd, data := .seq items n, slots := sl } ∧
      R (.ok (.ret (.ref s.heap.objs.size))) { s with heap := s.heap.push { cls := Value.type "tuple", data := Data.seq #[] } }) :=
  .of_wp fun prog w A R s hh => by
    obtain ⟨hp, g, d, tk, os⟩ := s
    obtain ⟨hl, h⟩ := hh
    have f1 := AutoSeq1.idx_int
    wp_walk using wpAny_loadPart' hl
    repeat (first
      | (refine wpAny_ite_false (decide_eq_false (by rw [c0]; exact Bool.false_ne_true)) ?_; wp_walk using wpAny_loadPart' hl)
      | (refine wpAny_ite_false (decide_eq_false (by rw [c1]; exact Bool.false_ne_true)) ?_; wp_walk using wpAny_loadPart' hl)
      | (refine wpAny_ite_true (decide_eq_true (show (decide (x ≤ 0) || items.isEmpty) = true from c2)) ?_; wp_walk using wpAny_loadPart' hl))
    exact ⟨_, rfl, h⟩
def rRepTA (K : PySem.W.Frag) : R2 := fun x y H Q => ∃ l k xs, x = .ref l ∧ y = .int k ∧ SqT K H l xs ∧ 0 ≤ k ∧ k ≤ 1000 ∧ xs.length ≤ 1000 ∧ RetT K (List.replicate k.toNat xs).flatten H Q
section
variable {X : Cx}
theorem op_repTA : OpR X (binaryOp .Mult) (rRepTA X.K) := by
  intro pins s σ H x y v u Q I rx ry h
  obtain ⟨l, k, xs, rfl, rfl, hT, h1, h2, hz, q⟩ := h
  by_cases big : xs ≠ [] ∧ 2 ≤ k
  · exact op_repT pins s σ H _ _ v u Q I rx ry ⟨l, k, xs, rfl, rfl, hT, big.1, big.2, h2, hz, q.new⟩
  cases rx
  obtain ⟨t, rfl⟩ := ry
  obtain ⟨its, r, ⟨⟨cls, dd, data, sl⟩, ho, hc, n, hd⟩, hs⟩ := I.tuple hT
  simp only at hc hd
  subst hc hd
  have hle : its.length = xs.length := r.length.symm
  have c0 : (decide (k < -(2 ^ 63)) || decide (k ≥ 2 ^ 63)) = false := by
    rw [decide_eq_false (by omega), decide_eq_false (by omega)] <;> rfl
  have go : ∀ {W : Value → Shared → Prop}, wpAny (model X.prog X.w) X.A (call (.builtin "tuple.__mul__") [.ref l, .int k t]) W X.xe s → wpAny (model X.prog X.w) X.A (binaryOp .Mult (.ref l) (.int k t)) W X.xe s := fun {W} hW =>
    wpAny_binaryOp_repeat_ref (T := "tuple") (U := "int") (by decide) ⟨_, ho, rfl⟩ (fun s' => typeIs_int s' k t) noFill_tuple_mul F.fills_int_mul F.slot_int_rmul repeat_tuple F.slot_int_index.lookup
      (call_meets F.slot_int_rmul (typeIs_int s k t) F.entry_int_rmul (F.args_int_rmul_2 _ _) (int_rmul_tuple k t l its.toArray n dd sl) ⟨ho, rfl, ⟨_, ho, rfl⟩, hW⟩)
  have emp : its.toArray.isEmpty = decide (xs = []) := by
    cases its with
    | nil =>
      have : xs = [] := List.eq_nil_of_length_eq_zero (by simpa using hle.symm)
      simp [this]
    | cons a b =>
      have : xs ≠ [] := fun e => by rw [e] at hle; simp at hle
      simp [this]
  by_cases same : xs = [] ∨ k = 1
  · have c1 : (its.toArray.isEmpty || k == 1) = true := by
      rw [emp]
      rcases same with e | e <;> simp [e]
    refine go (call_meets F.slot_tuple_mul ⟨_, ho, rfl⟩ F.entry_tuple_mul (F.args_tuple_mul_2 _ _) (tuple_mul1 l its.toArray n sl dd k t c0 c1) ⟨ho, ?_⟩)
    have e : (List.replicate k.toNat xs).flatten = xs := by
      rcases same with e | e
      · subst e; simp
      · subst e; simp
    rw [e] at q
    exact ⟨.ref l, H, I, rfl, q.old hT⟩
  · have ne : xs ≠ [] := fun e => same (.inl e)
    have k0 : k = 0 := by
      have : ¬ 2 ≤ k := fun z => big ⟨ne, z⟩
      have : k ≠ 1 := fun e => same (.inr e)
      omega
    subst k0
    have c1 : (its.toArray.isEmpty || (0 : Int) == 1) = false := by rw [emp]; simp [ne]
    refine go (call_meets F.slot_tuple_mul ⟨_, ho, rfl⟩ F.entry_tuple_mul (F.args_tuple_mul_2 _ _) (tuple_mul0 l its.toArray n sl dd 0 t c0 c1 rfl) ⟨ho, ?_⟩)
    refine ⟨.ref s.heap.objs.size, _, I.laid (t' := s.toks) (o := .tup []) (fun b ob z => Heap.get?_push_of_some _ z) (Nat.le_refl _) ?_, rfl, q.new _ (I.hok.fresh (Nat.le_refl _))⟩
    exact ⟨by simp, [], .nil, IsTup.new _ _⟩
end

theorem _root_.L2.Same.tup {K : PySem.W.Frag} {H H' : Hp} {a : Addr} {xs : List V} (e : Same H H') (h : SqT K H a xs) : SqT K H' a xs := by
  rcases h with (h | ⟨o, h⟩) | h
  · exact .inl (.inl (e _ _ h))
  · exact .inl (.inr ⟨o, e _ _ h⟩)
  · exact .inr h
theorem RetT.go {K : PySem.W.Frag} {xs : List V} {H H1 : Hp} {Q : VK} (k : RetT K xs H Q) (e : Same H H1) : RetT K xs H1 Q := fun p H2 e2 h => k p H2 (e.trans e2) h
theorem RetT.to {K : PySem.W.Frag} {xs ys : List V} {H : Hp} {Q : VK} (k : RetT K xs H Q) (e : xs = ys) : RetT K ys H Q := e ▸ k
section
variable {X : Cx}
/-- t[lo:hi] -/
def rSlR (K : PySem.W.Frag) : V → Option Int → Option Int → Hp → VK → Prop := fun x lo hi H Q => ∃ a xs, x = .ref a ∧ SqT K H a xs ∧ RetT K (cutV xs lo hi) H Q
theorem sl_tupR : SlR X (rSlR X.K) := by
  intro pins s σ H x v vl vu lo hi sl Q I rx hs pl pu h
  obtain ⟨a, xs, rfl, hx, k⟩ := h
  refine sl_tupA pins s σ H _ v vl vu lo hi sl Q I rx hs pl pu ⟨a, xs, rfl, hx, fun e => ?_, fun _ => k.new⟩
  have c : cutV xs lo hi = xs := by
    unfold cutV
    rw [e.1, e.2]
    simp
  rw [c] at k
  exact k.old hx
/-- t + u -/
def rCatR (K : PySem.W.Frag) : R2 := fun x y H Q => ∃ a b xs ys, x = .ref a ∧ y = .ref b ∧ SqT K H a xs ∧ SqT K H b ys ∧ xs.length + ys.length ≤ sizeLine ∧ RetT K (xs ++ ys) H Q
theorem op_catR : OpR X (binaryOp .Add) (rCatR X.K) := by
  intro pins s σ H x y v u Q I rx ry h
  obtain ⟨a, b, xs, ys, rfl, rfl, ha, hb, hz, k⟩ := h
  refine op_catA pins s σ H _ _ v u Q I rx ry ⟨a, b, xs, ys, rfl, rfl, ha, hb, hz, fun e => ?_, fun _ e => ?_, fun _ _ => k.new⟩
  · subst e; exact k.old hb
  · subst e; rw [List.append_nil] at k; exact k.old ha
/-- tuple(xs) -/
theorem call_tupleR : CallR X (.type "tuple") (fun xs H Q => ∃ p ys, xs = [.ref p] ∧ (SqL X.K H p ys ∨ SqT X.K H p ys) ∧ RetT X.K ys H Q) := by
  intro pins s σ H xs us Q I r h
  obtain ⟨p, ys, ex, hp, k⟩ := h
  refine call_tuple_of pins s σ H xs us Q I r ⟨p, ys, ex, ?_⟩
  rcases hp with hp | hp
  · exact .inl ⟨hp, k.new⟩
  · exact .inr ⟨hp, k.old hp⟩
end

/-! ### defs -/
section
variable {P : Program} {w : World} {K : PySem.W.Frag} {mg : Str → Option Value} {base : Heap}
/-- a def that may be called by its name -/
theorem calD {x : Str} {st : Stmt} {f : Addr} {fd : FuncData} {N ps : List Str} {k : Nat} {sp : Sp} (F : FunD K x x (defArgs st) (defBody st) (defScope st) [] [] f fd) (g : mg x = some (.ref f))
    (hb : ∀ (kV doc pm : Value) (an : Option Addr) (cdv ct : Value) (us : List Value), us.length = ps.length → bindArgs (PySem.W.fnOf x x (defArgs st) (defBody st) (defScope st) .none kV doc pm an cdv ct) ⟨us, []⟩ = pure (ps.zip us))
    (S : FnScope N ps (defScope st)) (len : ∀ vs H Q E, sp vs H Q E → vs.length = ps.length)
    (body : ∀ (cdv : Value) (A : Around) (outer : List Env) (s : Shared) (H : Hp) (vs : List V) (Q : VK) (E : XK), Room k (A.deeper (envOfC x (defScope st) s.heap.objs.size f cdv)) → sp vs H Q E →
      ∃ t, PSs (cxOf CX0 P w K mg base N x (defScope st) f cdv A outer s H E).nox (defBody st) t ∧ t { nx := fun _ H' => Q .non H', rt := Q } (start N vs) H) : Cal P w K mg base (k + 1) x sp [] :=
  ⟨f, fd, ps, [], F.ok S len fun cdv A outer s H vs Q E hr hs => (let ⟨t, h, q⟩ := body cdv A outer s H vs Q E hr hs; ⟨t, h.nox, q⟩), g, F.kp, F.bindsN hb, .nil⟩
/-- a method -/
theorem metD {C : Addr} {m qual : Str} {st : Stmt} {f : Addr} {fd : FuncData} {N ps : List Str} {k : Nat} {sp : Sp} (c : Cls K C) (me : Meth K C m f) (F : FunD K m qual (defArgs st) (defBody st) (defScope st) [] [] f fd)
    (hb : ∀ (kV doc pm : Value) (an : Option Addr) (cdv ct : Value) (us : List Value), us.length = ps.length → bindArgs (PySem.W.fnOf m qual (defArgs st) (defBody st) (defScope st) .none kV doc pm an cdv ct) ⟨us, []⟩ = pure (ps.zip us))
    (S : FnScope N ps (defScope st)) (len : ∀ vs H Q E, sp vs H Q E → vs.length = ps.length)
    (body : ∀ (cdv : Value) (A : Around) (outer : List Env) (s : Shared) (H : Hp) (vs : List V) (Q : VK) (E : XK), Room k (A.deeper (envOfC qual (defScope st) s.heap.objs.size f cdv)) → sp vs H Q E →
      ∃ t, PSs (cxOf CX0 P w K mg base N qual (defScope st) f cdv A outer s H E).nox (defBody st) t ∧ t { nx := fun _ H' => Q .non H', rt := Q } (start N vs) H) : Met P w K mg base (k + 1) C m sp [] :=
  ⟨f, fd, ps, [], c, me, F.ok S len fun cdv A outer s H vs Q E hr hs => (let ⟨t, h, q⟩ := body cdv A outer s H vs Q E hr hs; ⟨t, h.nox, q⟩), F.bindsN hb, .nil⟩
/-- a class by its __init__ -/
theorem makD {C : Addr} {x qual : Str} {st : Stmt} {f : Addr} {fd : FuncData} {N ps : List Str} {k : Nat} {sp : Sp} (g : mg x = some (.ref C)) (M : Mk K C f) (F : FunD K "__init__" qual (defArgs st) (defBody st) (defScope st) [] [] f fd)
    (hb : ∀ (kV doc pm : Value) (an : Option Addr) (cdv ct : Value) (us : List Value), us.length = ps.length → bindArgs (PySem.W.fnOf "__init__" qual (defArgs st) (defBody st) (defScope st) .none kV doc pm an cdv ct) ⟨us, []⟩ = pure (ps.zip us))
    (S : FnScope N ps (defScope st)) (len : ∀ vs H Q E, sp vs H Q E → vs.length = ps.length)
    (body : ∀ (cdv : Value) (A : Around) (outer : List Env) (s : Shared) (H : Hp) (vs : List V) (Q : VK) (E : XK), Room k (A.deeper (envOfC qual (defScope st) s.heap.objs.size f cdv)) → sp vs H Q E →
      ∃ t, PSs (cxOf CX0 P w K mg base N qual (defScope st) f cdv A outer s H E).nox (defBody st) t ∧ t { nx := fun _ H' => Q .non H', rt := Q } (start N vs) H) : Mak P w K mg base (k + 1) x C sp [] :=
  ⟨f, fd, ps, [], M, F.ok S len fun cdv A outer s H vs Q E hr hs => (let ⟨t, h, q⟩ := body cdv A outer s H vs Q E hr hs; ⟨t, h.nox, q⟩), g, F.bindsN hb, .nil⟩
end
/-- C() of such a class -/
theorem pe_mk0 {X : Cx} {C : Addr} {k j : Nat} {x : Str} {sp : Sp} {dvs : List V} {p pos : Pos} (c : Mak X.prog X.w X.K X.mg X.base k x C sp dvs) (hr : Room j X.A) (hk : k + 1 ≤ j) (hg : Gl X x) (hdb : (x == ("__debug__" : Str)) = false := by decide) :
    PE X (.Call (.Name x p) [] [] pos) (tMake C sp dvs E0 tNil) := by
  obtain ⟨f, fd, ps, ds, M, F, hm, hb, hd⟩ := c.ex
  exact pe_make0 M F (hr.mono hk) hg hm hb hd pass0 hdb
end OW
/-! Data: doings, cosets, graphs as values. -/
namespace OW
open PySem PySem.Spec PyProof.Rows L2
/-- a doing's items -/
abbrev iv (x : List Int) : List V := x.map V.int
theorem iv_at {x : List Int} {j : Nat} {v : V} (h : (iv x)[j]? = some v) : ∃ i, x[j]? = some i ∧ v = .int i := by
  rw [List.getElem?_map] at h
  cases e : x[j]? with
  | none => rw [e] at h; cases h
  | some i => rw [e] at h; exact ⟨i, rfl, (Option.some.inj h).symm⟩
theorem iv_get {x : List Int} {j : Nat} {i : Int} (h : x[j]? = some i) : (iv x)[j]? = some (V.int i) := by
  rw [List.getElem?_map, h]; rfl
theorem iv_len (x : List Int) : (iv x).length = x.length := List.length_map ..
def ivD (x : List Int) : List PyData := x.map PyData.int
section
variable {K : PySem.W.Frag} {H H' : Hp}
theorem dpAll_iv : ∀ x : List Int, DpAll K H (iv x) (ivD x)
  | [] => .nil
  | a :: x => .cons (.int a) (dpAll_iv x)
theorem dp_iv {a : Addr} {x : List Int} (h : SqT K H a (iv x)) : Dp K H (.ref a) (.tuple (ivD x)) := .tup h (dpAll_iv x)
end
theorem canLay_iv : ∀ x : List Int, PyData.canLayAll0 (ivD x) = true
  | [] => rfl
  | a :: x => by simp [ivD, PyData.canLayAll0, PyData.canLay0]; exact canLay_iv x
theorem eqvAll_iv : ∀ x y : List Int, PyData.eqvAll (ivD x) (ivD y) = decide (x = y)
  | [], [] => rfl
  | [], _ :: _ => rfl
  | _ :: _, [] => rfl
  | a :: x, b :: y => by
    have ih := eqvAll_iv x y
    show (PyData.eqv (.int a) (.int b) && PyData.eqvAll (ivD x) (ivD y)) = _
    rw [ih]
    simp only [PyData.eqv, List.cons.injEq, Bool.decide_and]
    rw [Bool.beq_eq_decide_eq]
theorem eqv_iv (x y : List Int) : PyData.eqv (.tuple (ivD x)) (.tuple (ivD y)) = decide (x = y) := by
  show PyData.eqvAll (ivD x) (ivD y) = _
  exact eqvAll_iv x y
theorem depthAll_iv : ∀ x : List Int, PyData.depthAll (ivD x) ≤ 1
  | [] => by simp [ivD, PyData.depthAll]
  | a :: x => by
    have := depthAll_iv x
    simp [ivD, PyData.depthAll, PyData.depth] at this ⊢
    omega
theorem shaped_iv (x : List Int) : SeqAt.shaped (.tuple (ivD x)) = true := by
  have h1 := canLay_iv x
  have h2 := depthAll_iv x
  simp [SeqAt.shaped, PyData.canLay0, PyData.depth, h1]
  omega

/-! ### cosets, graphs -/
def ov : Option Nat → V
  | none => .non
  | some n => .int (n : Nat)
def od : Option Nat → PyData
  | none => .none
  | some n => .int (n : Nat)
/-- a coset at c -/
def CosAt (K : PySem.W.Frag) (H : Hp) (c : Addr) (p : Nat) (t : List Int) : Prop := ∃ b, SqT K H c [.int (p : Nat), .ref b] ∧ SqT K H b (iv t)
/-- the graph of n places and the way d at a: rows of pairs -/
def GrAt (K : PySem.W.Frag) (H : Hp) (a : Addr) (acts n : Nat) (d : FG.Dl) : Prop := ∃ rows : List Addr, SqT K H a (rows.map V.ref) ∧ rows.length = n ∧ ∀ (k : Nat) (r : Addr), rows[k]? = some r →
  ∃ prs : List Addr, SqT K H r (prs.map V.ref) ∧ prs.length = acts ∧ ∀ (j : Nat) (p : Addr), prs[j]? = some p → SqT K H p [ov (d k ((j : Int) + 1)), ov (d k (-((j : Int) + 1)))]
section
variable {K : PySem.W.Frag} {H H' : Hp} {a c : Addr} {acts n p : Nat} {d : FG.Dl} {t : List Int}
theorem CosAt.go (h : CosAt K H c p t) (e : Same H H') : CosAt K H' c p t := let ⟨b, h1, h2⟩ := h; ⟨b, e.tup h1, e.tup h2⟩
theorem GrAt.go (h : GrAt K H a acts n d) (e : Same H H') : GrAt K H' a acts n d := by
  obtain ⟨rows, h1, h2, h3⟩ := h
  refine ⟨rows, e.tup h1, h2, fun k r hr => ?_⟩
  obtain ⟨prs, q1, q2, q3⟩ := h3 k r hr
  exact ⟨prs, e.tup q1, q2, fun j p hp => e.tup (q3 j p hp)⟩
/-- an entry of it -/
theorem GrAt.at (h : GrAt K H a acts n d) {k j : Nat} (hk : k < n) (hj : j < acts) : ∃ (rows prs : List Addr) (r q : Addr), SqT K H a (rows.map V.ref) ∧ (rows.map V.ref)[k]? = some (.ref r) ∧ SqT K H r (prs.map V.ref) ∧ (prs.map V.ref)[j]? = some (.ref q) ∧
    SqT K H q [ov (d k ((j : Int) + 1)), ov (d k (-((j : Int) + 1)))] := by
  obtain ⟨rows, h1, h2, h3⟩ := h
  have lk : k < rows.length := by omega
  obtain ⟨prs, q1, q2, q3⟩ := h3 k rows[k] (List.getElem?_eq_getElem lk)
  have lj : j < prs.length := by omega
  exact ⟨rows, prs, rows[k], prs[j], h1, by simp [lk], q1, by simp [lj], q3 j _ (List.getElem?_eq_getElem lj)⟩
end
def cosD (p : Nat) (t : List Int) : PyData := .tuple [.int (p : Nat), .tuple (ivD t)]
theorem CosAt.dp {K : PySem.W.Frag} {H : Hp} {c : Addr} {p : Nat} {t : List Int} (h : CosAt K H c p t) : Dp K H (.ref c) (cosD p t) := by
  obtain ⟨b, h1, h2⟩ := h
  exact .tup h1 (.cons (.int _) (.cons (dp_iv h2) .nil))
theorem shaped_cos (p : Nat) (t : List Int) : SeqAt.shaped (cosD p t) = true := by
  have h1 := canLay_iv t
  have h2 := depthAll_iv t
  simp [cosD, SeqAt.shaped, PyData.canLay0, PyData.canLayAll0, PyData.depth, PyData.depthAll, h1]
  omega
theorem eqv_cos (p q : Nat) (t u : List Int) : PyData.eqv (cosD p t) (cosD q u) = decide (((p, t) : Nat × List Int) = (q, u)) := by
  have h := eqv_iv t u
  show (PyData.eqv (.int (p : Nat)) (.int (q : Nat)) && (PyData.eqv (.tuple (ivD t)) (.tuple (ivD u)) && true)) = _
  rw [h]
  simp only [PyData.eqv, Bool.and_true, Prod.mk.injEq, Bool.decide_and]
  rw [Bool.beq_eq_decide_eq]
  congr 1
  exact decide_eq_decide.mpr Int.ofNat_inj
end OW
namespace W43
open PySem PySem.Spec PyProof.Rows L2
def topS (i : Nat) : Stmt := PySem.Challenge.pw_slippedwritings_k43_folded_graphs_by_own.main.body.getD i (.Pass ⟨0, 0, 0, 0⟩)
abbrev s_cancelled : Stmt := topS 1
abbrev s_joined : Stmt := topS 2
abbrev s_act_signs : Stmt := topS 4
abbrev s_Folding_init : Stmt := inClass (topS 5) 0
abbrev s_Folding_place_for : Stmt := inClass (topS 5) 1
abbrev s_Folding_new : Stmt := inClass (topS 5) 2
abbrev s_Folding_put_end : Stmt := inClass (topS 5) 3
abbrev s_Folding_put_edge : Stmt := inClass (topS 5) 4
abbrev s_Folding_put_loop : Stmt := inClass (topS 5) 5
abbrev s_Folding_fold : Stmt := inClass (topS 5) 6
abbrev s_Folding_numbered : Stmt := inClass (topS 5) 7
abbrev s_folded_graph : Stmt := topS 6
abbrev s_read_on : Stmt := topS 7
abbrev s_coset_behind : Stmt := topS 8
abbrev s_is_member : Stmt := topS 9
abbrev s_law_source : Stmt := topS 11
abbrev s_law_pick : Stmt := topS 12
abbrev s_law_of : Stmt := topS 13
abbrev s_law_mixed : Stmt := topS 14
abbrev s_law_join : Stmt := topS 15
abbrev s_law_undone : Stmt := topS 16
abbrev s_law_power : Stmt := topS 17
abbrev s_law_doing : Stmt := topS 18
abbrev s_law_signs : Stmt := topS 19
abbrev s_law_graph : Stmt := topS 20
abbrev s_law_read : Stmt := topS 21
abbrev s_law_doings : Stmt := topS 22
abbrev s_law_others : Stmt := topS 23
abbrev s_law_product : Stmt := topS 24
abbrev s_law : Stmt := topS 25
theorem sc_cancelled : FnScope ["x", "y", "most", "many"] ["x", "y"] (defScope s_cancelled) := ⟨rfl, rfl, rfl, by decide +kernel, rfl, by decide +kernel, by decide +kernel⟩
theorem sc_joined : FnScope ["x", "y", "many"] ["x", "y"] (defScope s_joined) := ⟨rfl, rfl, rfl, by decide +kernel, rfl, by decide +kernel, by decide +kernel⟩
theorem sc_act_signs : FnScope ["acts", "found", "act"] ["acts"] (defScope s_act_signs) := ⟨rfl, rfl, rfl, by decide +kernel, rfl, by decide +kernel, by decide +kernel⟩
theorem sc_Folding_init : FnScope ["self"] ["self"] (defScope s_Folding_init) := ⟨rfl, rfl, rfl, by decide +kernel, rfl, by decide +kernel, by decide +kernel⟩
theorem sc_Folding_place_for : FnScope ["self", "place"] ["self", "place"] (defScope s_Folding_place_for) := ⟨rfl, rfl, rfl, by decide +kernel, rfl, by decide +kernel, by decide +kernel⟩
theorem sc_Folding_new : FnScope ["self"] ["self"] (defScope s_Folding_new) := ⟨rfl, rfl, rfl, by decide +kernel, rfl, by decide +kernel, by decide +kernel⟩
theorem sc_Folding_put_end : FnScope ["self", "place", "sign", "late"] ["self", "place", "sign", "late"] (defScope s_Folding_put_end) := ⟨rfl, rfl, rfl, by decide +kernel, rfl, by decide +kernel, by decide +kernel⟩
theorem sc_Folding_put_edge : FnScope ["self", "place", "sign", "late"] ["self", "place", "sign", "late"] (defScope s_Folding_put_edge) := ⟨rfl, rfl, rfl, by decide +kernel, rfl, by decide +kernel, by decide +kernel⟩
theorem sc_Folding_put_loop : FnScope ["self", "doing", "here", "k", "sign", "late"] ["self", "doing"] (defScope s_Folding_put_loop) := ⟨rfl, rfl, rfl, by decide +kernel, rfl, by decide +kernel, by decide +kernel⟩
theorem sc_Folding_fold : FnScope ["self", "one", "other", "sign", "late", "place"] ["self"] (defScope s_Folding_fold) := ⟨rfl, rfl, rfl, by decide +kernel, rfl, by decide +kernel, by decide +kernel⟩
theorem sc_Folding_numbered : FnScope ["self", "acts", "line", "known", "found", "row", "sign", "late", "act"] ["self", "acts"] (defScope s_Folding_numbered) := ⟨rfl, rfl, rfl, by decide +kernel, rfl, by decide +kernel, by decide +kernel⟩
theorem sc_folded_graph : FnScope ["acts", "doings", "folding", "doing"] ["acts", "doings"] (defScope s_folded_graph) := ⟨rfl, rfl, rfl, by decide +kernel, rfl, by decide +kernel, by decide +kernel⟩
theorem sc_read_on : FnScope ["graph", "place", "sign", "both"] ["graph", "place", "sign"] (defScope s_read_on) := ⟨rfl, rfl, rfl, by decide +kernel, rfl, by decide +kernel, by decide +kernel⟩
theorem sc_coset_behind : FnScope ["graph", "coset", "doing", "place", "tail"] ["graph", "coset", "doing"] (defScope s_coset_behind) := ⟨rfl, rfl, rfl, by decide +kernel, rfl, by decide +kernel, by decide +kernel⟩
theorem sc_is_member : FnScope ["graph", "doing"] ["graph", "doing"] (defScope s_is_member) := ⟨rfl, rfl, rfl, by decide +kernel, rfl, by decide +kernel, by decide +kernel⟩
theorem sc_law_source : FnScope ["script", "mixed", "cell"] ["script"] (defScope s_law_source) := ⟨rfl, rfl, rfl, by decide +kernel, rfl, by decide +kernel, by decide +kernel⟩
theorem sc_law_pick : FnScope ["source", "many", "left", "mixed"] ["source", "many"] (defScope s_law_pick) := ⟨rfl, rfl, rfl, by decide +kernel, rfl, by decide +kernel, by decide +kernel⟩
theorem sc_law_of : FnScope ["source", "some"] ["source", "some"] (defScope s_law_of) := ⟨rfl, rfl, rfl, by decide +kernel, rfl, by decide +kernel, by decide +kernel⟩
theorem sc_law_mixed : FnScope ["source", "things", "rest", "lap"] ["source", "things"] (defScope s_law_mixed) := ⟨rfl, rfl, rfl, by decide +kernel, rfl, by decide +kernel, by decide +kernel⟩
theorem sc_law_join : FnScope ["some", "found", "row", "act"] ["some"] (defScope s_law_join) := ⟨rfl, rfl, rfl, by decide +kernel, rfl, by decide +kernel, by decide +kernel⟩
theorem sc_law_undone : FnScope ["x", "act"] ["x"] (defScope s_law_undone) := ⟨rfl, rfl, rfl, by decide +kernel, rfl, by decide +kernel, by decide +kernel⟩
theorem sc_law_power : FnScope ["x", "many"] ["x", "many"] (defScope s_law_power) := ⟨rfl, rfl, rfl, by decide +kernel, rfl, by decide +kernel, by decide +kernel⟩
theorem sc_law_doing : FnScope ["source", "acts", "most", "some", "k", "act"] ["source", "acts", "most"] (defScope s_law_doing) := ⟨rfl, rfl, rfl, by decide +kernel, rfl, by decide +kernel, by decide +kernel⟩
theorem sc_law_signs : FnScope ["acts", "found", "act"] ["acts"] (defScope s_law_signs) := ⟨rfl, rfl, rfl, by decide +kernel, rfl, by decide +kernel, by decide +kernel⟩
theorem sc_law_graph : FnScope ["acts", "doings", "edges", "many", "doing", "here", "k", "sign", "late", "gone", "known", "some", "leads", "line", "found", "row", "places", "act", "edge"] ["acts", "doings"] (defScope s_law_graph) := ⟨rfl, rfl, rfl, by decide +kernel, rfl, by decide +kernel, by decide +kernel⟩
theorem sc_law_read : FnScope ["graph", "place", "doing", "k", "sign", "late"] ["graph", "place", "doing"] (defScope s_law_read) := ⟨rfl, rfl, rfl, by decide +kernel, rfl, by decide +kernel, by decide +kernel⟩
theorem sc_law_doings : FnScope ["source", "acts", "found", "turn", "x", "way", "g"] ["source", "acts"] (defScope s_law_doings) := ⟨rfl, rfl, rfl, by decide +kernel, rfl, by decide +kernel, by decide +kernel⟩
theorem sc_law_others : FnScope ["source", "doings", "found", "turn", "i", "j", "more", "x"] ["source", "doings"] (defScope s_law_others) := ⟨rfl, rfl, rfl, by decide +kernel, rfl, by decide +kernel, by decide +kernel⟩
theorem sc_law_product : FnScope ["source", "doings", "some", "turn", "x"] ["source", "doings"] (defScope s_law_product) := ⟨rfl, rfl, rfl, by decide +kernel, rfl, by decide +kernel, by decide +kernel⟩
theorem sc_law : FnScope ["script", "source", "acts", "doings", "graph", "kept", "due", "known", "turn", "member", "any_one", "coset", "more", "late", "one", "other", "is_alike", "place", "row", "act", "ahead"] ["script"] (defScope s_law) := ⟨rfl, rfl, rfl, by decide +kernel, rfl, by decide +kernel, by decide +kernel⟩
structure Tx (K : PySem.W.Frag) (mg : Str → Option Value) : Prop where
  g_cancelled : mg "cancelled" = some (.ref (He.ga K "cancelled"))
  g_joined : mg "joined" = some (.ref (He.ga K "joined"))
  g_act_signs : mg "act_signs" = some (.ref (He.ga K "act_signs"))
  g_Folding : mg "Folding" = some (.ref (He.ga K "Folding"))
  cl_Folding : Cls K (He.ga K "Folding")
  mk_Folding : Mk K (He.ga K "Folding") (He.ma K (He.ga K "Folding") "__init__")
  mt_Folding_place_for : Meth K (He.ga K "Folding") "place_for" (He.ma K (He.ga K "Folding") "place_for")
  mt_Folding_new : Meth K (He.ga K "Folding") "new" (He.ma K (He.ga K "Folding") "new")
  mt_Folding_put_end : Meth K (He.ga K "Folding") "put_end" (He.ma K (He.ga K "Folding") "put_end")
  mt_Folding_put_edge : Meth K (He.ga K "Folding") "put_edge" (He.ma K (He.ga K "Folding") "put_edge")
  mt_Folding_put_loop : Meth K (He.ga K "Folding") "put_loop" (He.ma K (He.ga K "Folding") "put_loop")
  mt_Folding_fold : Meth K (He.ga K "Folding") "fold" (He.ma K (He.ga K "Folding") "fold")
  mt_Folding_numbered : Meth K (He.ga K "Folding") "numbered" (He.ma K (He.ga K "Folding") "numbered")
  na_Folding_parents : NoAttr K (He.ga K "Folding") "parents"
  na_Folding_ends : NoAttr K (He.ga K "Folding") "ends"
  na_Folding_waiting : NoAttr K (He.ga K "Folding") "waiting"
  g_folded_graph : mg "folded_graph" = some (.ref (He.ga K "folded_graph"))
  g_read_on : mg "read_on" = some (.ref (He.ga K "read_on"))
  g_coset_behind : mg "coset_behind" = some (.ref (He.ga K "coset_behind"))
  g_is_member : mg "is_member" = some (.ref (He.ga K "is_member"))
  g_law_source : mg "_law_source" = some (.ref (He.ga K "_law_source"))
  g_law_pick : mg "_law_pick" = some (.ref (He.ga K "_law_pick"))
  g_law_of : mg "_law_of" = some (.ref (He.ga K "_law_of"))
  g_law_mixed : mg "_law_mixed" = some (.ref (He.ga K "_law_mixed"))
  g_law_join : mg "_law_join" = some (.ref (He.ga K "_law_join"))
  g_law_undone : mg "_law_undone" = some (.ref (He.ga K "_law_undone"))
  g_law_power : mg "_law_power" = some (.ref (He.ga K "_law_power"))
  g_law_doing : mg "_law_doing" = some (.ref (He.ga K "_law_doing"))
  g_law_signs : mg "_law_signs" = some (.ref (He.ga K "_law_signs"))
  g_law_graph : mg "_law_graph" = some (.ref (He.ga K "_law_graph"))
  g_law_read : mg "_law_read" = some (.ref (He.ga K "_law_read"))
  g_law_doings : mg "_law_doings" = some (.ref (He.ga K "_law_doings"))
  g_law_others : mg "_law_others" = some (.ref (He.ga K "_law_others"))
  g_law_product : mg "_law_product" = some (.ref (He.ga K "_law_product"))
  g_law : mg "law" = some (.ref (He.ga K "law"))
  z_abs : mg "abs" = none
  z_dict : mg "dict" = none
  z_enumerate : mg "enumerate" = none
  z_int : mg "int" = none
  z_len : mg "len" = none
  z_list : mg "list" = none
  z_max : mg "max" = none
  z_min : mg "min" = none
  z_range : mg "range" = none
  z_repr : mg "repr" = none
  z_sorted : mg "sorted" = none
  z_tuple : mg "tuple" = none
  d_cancelled : ∃ fd, FunD K "cancelled" "cancelled" (defArgs s_cancelled) (defBody s_cancelled) (defScope s_cancelled) [] [] (He.ga K "cancelled") fd
  d_joined : ∃ fd, FunD K "joined" "joined" (defArgs s_joined) (defBody s_joined) (defScope s_joined) [] [] (He.ga K "joined") fd
  d_act_signs : ∃ fd, FunD K "act_signs" "act_signs" (defArgs s_act_signs) (defBody s_act_signs) (defScope s_act_signs) [] [] (He.ga K "act_signs") fd
  d_Folding_init : ∃ fd, FunD K "__init__" "Folding.__init__" (defArgs s_Folding_init) (defBody s_Folding_init) (defScope s_Folding_init) [] [] (He.ma K (He.ga K "Folding") "__init__") fd
  d_Folding_place_for : ∃ fd, FunD K "place_for" "Folding.place_for" (defArgs s_Folding_place_for) (defBody s_Folding_place_for) (defScope s_Folding_place_for) [] [] (He.ma K (He.ga K "Folding") "place_for") fd
  d_Folding_new : ∃ fd, FunD K "new" "Folding.new" (defArgs s_Folding_new) (defBody s_Folding_new) (defScope s_Folding_new) [] [] (He.ma K (He.ga K "Folding") "new") fd
  d_Folding_put_end : ∃ fd, FunD K "put_end" "Folding.put_end" (defArgs s_Folding_put_end) (defBody s_Folding_put_end) (defScope s_Folding_put_end) [] [] (He.ma K (He.ga K "Folding") "put_end") fd
  d_Folding_put_edge : ∃ fd, FunD K "put_edge" "Folding.put_edge" (defArgs s_Folding_put_edge) (defBody s_Folding_put_edge) (defScope s_Folding_put_edge) [] [] (He.ma K (He.ga K "Folding") "put_edge") fd
  d_Folding_put_loop : ∃ fd, FunD K "put_loop" "Folding.put_loop" (defArgs s_Folding_put_loop) (defBody s_Folding_put_loop) (defScope s_Folding_put_loop) [] [] (He.ma K (He.ga K "Folding") "put_loop") fd
  d_Folding_fold : ∃ fd, FunD K "fold" "Folding.fold" (defArgs s_Folding_fold) (defBody s_Folding_fold) (defScope s_Folding_fold) [] [] (He.ma K (He.ga K "Folding") "fold") fd
  d_Folding_numbered : ∃ fd, FunD K "numbered" "Folding.numbered" (defArgs s_Folding_numbered) (defBody s_Folding_numbered) (defScope s_Folding_numbered) [] [] (He.ma K (He.ga K "Folding") "numbered") fd
  d_folded_graph : ∃ fd, FunD K "folded_graph" "folded_graph" (defArgs s_folded_graph) (defBody s_folded_graph) (defScope s_folded_graph) [] [] (He.ga K "folded_graph") fd
  d_read_on : ∃ fd, FunD K "read_on" "read_on" (defArgs s_read_on) (defBody s_read_on) (defScope s_read_on) [] [] (He.ga K "read_on") fd
  d_coset_behind : ∃ fd, FunD K "coset_behind" "coset_behind" (defArgs s_coset_behind) (defBody s_coset_behind) (defScope s_coset_behind) [] [] (He.ga K "coset_behind") fd
  d_is_member : ∃ fd, FunD K "is_member" "is_member" (defArgs s_is_member) (defBody s_is_member) (defScope s_is_member) [] [] (He.ga K "is_member") fd
  d_law_source : ∃ fd, FunD K "_law_source" "_law_source" (defArgs s_law_source) (defBody s_law_source) (defScope s_law_source) [] [] (He.ga K "_law_source") fd
  d_law_pick : ∃ fd, FunD K "_law_pick" "_law_pick" (defArgs s_law_pick) (defBody s_law_pick) (defScope s_law_pick) [] [] (He.ga K "_law_pick") fd
  d_law_of : ∃ fd, FunD K "_law_of" "_law_of" (defArgs s_law_of) (defBody s_law_of) (defScope s_law_of) [] [] (He.ga K "_law_of") fd
  d_law_mixed : ∃ fd, FunD K "_law_mixed" "_law_mixed" (defArgs s_law_mixed) (defBody s_law_mixed) (defScope s_law_mixed) [] [] (He.ga K "_law_mixed") fd
  d_law_join : ∃ fd, FunD K "_law_join" "_law_join" (defArgs s_law_join) (defBody s_law_join) (defScope s_law_join) [] [] (He.ga K "_law_join") fd
  d_law_undone : ∃ fd, FunD K "_law_undone" "_law_undone" (defArgs s_law_undone) (defBody s_law_undone) (defScope s_law_undone) [] [] (He.ga K "_law_undone") fd
  d_law_power : ∃ fd, FunD K "_law_power" "_law_power" (defArgs s_law_power) (defBody s_law_power) (defScope s_law_power) [] [] (He.ga K "_law_power") fd
  d_law_doing : ∃ fd, FunD K "_law_doing" "_law_doing" (defArgs s_law_doing) (defBody s_law_doing) (defScope s_law_doing) [] [] (He.ga K "_law_doing") fd
  d_law_signs : ∃ fd, FunD K "_law_signs" "_law_signs" (defArgs s_law_signs) (defBody s_law_signs) (defScope s_law_signs) [] [] (He.ga K "_law_signs") fd
  d_law_graph : ∃ fd, FunD K "_law_graph" "_law_graph" (defArgs s_law_graph) (defBody s_law_graph) (defScope s_law_graph) [] [] (He.ga K "_law_graph") fd
  d_law_read : ∃ fd, FunD K "_law_read" "_law_read" (defArgs s_law_read) (defBody s_law_read) (defScope s_law_read) [] [] (He.ga K "_law_read") fd
  d_law_doings : ∃ fd, FunD K "_law_doings" "_law_doings" (defArgs s_law_doings) (defBody s_law_doings) (defScope s_law_doings) [] [] (He.ga K "_law_doings") fd
  d_law_others : ∃ fd, FunD K "_law_others" "_law_others" (defArgs s_law_others) (defBody s_law_others) (defScope s_law_others) [] [] (He.ga K "_law_others") fd
  d_law_product : ∃ fd, FunD K "_law_product" "_law_product" (defArgs s_law_product) (defBody s_law_product) (defScope s_law_product) [] [] (He.ga K "_law_product") fd
  d_law : ∃ fd, FunD K "law" "law" (defArgs s_law) (defBody s_law) (defScope s_law) [] [] (He.ga K "law") fd
end W43
namespace W43
open PySem PySem.Spec PyProof.Rows L2 OW
open C8 (Cal Met Mak pe_c pe_mt pe_mt0 pe_mk)
section
variable {P : Program} {w : World} {K : PySem.W.Frag} {mg : Str → Option Value} {base : Heap}
/-! ### cancelled -/
def cancelN (x y : List Int) : Nat → Nat → Nat
  | 0, m => m
  | f + 1, m => if m < min x.length y.length ∧ x[x.length - 1 - m]? = (y[m]?).map (fun a => -a) then cancelN x y f (m + 1) else m
/-- how many acts of x's end y's beginning undoes -/
def cancelled (x y : List Int) : Nat := cancelN x y (min x.length y.length) 0
def sp_cancelled (K : PySem.W.Frag) : Sp := fun vs H Q _ => ∃ (a b : Addr) (x y : List Int), vs = [.ref a, .ref b] ∧ SqT K H a (iv x) ∧ SqT K H b (iv y) ∧ Q (.int (cancelled x y : Nat)) H
theorem c_cancelled (T : Tx K mg) : Cal P w K mg base 1 "cancelled" (sp_cancelled K) [] := by
  obtain ⟨fd, F⟩ := T.d_cancelled
  refine calD F T.g_cancelled (fun _ _ _ _ _ _ us hl => match us, hl with | [_, _], _ => rfl) sc_cancelled (fun vs H Q E h => ?_) (fun cdv A outer s H vs Q E hr h => ?_)
  · obtain ⟨a, b, x, y, rfl, _⟩ := h
    rfl
  · obtain ⟨a, b, x, y, rfl, hx, hy, k⟩ := h
    refine ⟨_, (pss_cons (ps_par (i := 2) (j := 3) rfl sc_cancelled.nd rfl rfl (by decide) rfl rfl (pa_cons (pe_callB (call_min2 rfl) rfl T.z_min (by decide +kernel) (pa_cons (pe_callB call_len_seq rfl T.z_len (by decide +kernel) (pa_cons (pv 0) pa_nil)) (pa_cons (pe_callB call_len_seq rfl T.z_len (by decide +kernel) (pa_cons (pv 1) pa_nil)) pa_nil))) (pa_cons pe_int pa_nil)) (by rfl))
      (pss_cons (ps_while PassesOwn.never (PW.pt (pw_and (pt_cmpR op_lt (pv 3) (pv 2) (nomark _)) (pw_and1 (pt_cmpR op_eq (pe_ix ix_tup (pv 0) (pe_op op_sub (pe_op op_sub (pe_callB call_len_seq rfl T.z_len (by decide +kernel) (pa_cons (pv 0) pa_nil)) pe_int) (pv 3)) (fun _ _ => rfl)) (pe_un un_neg (pe_ix ix_tup (pv 1) (pv 3) (fun _ _ => rfl))) (nomark _))))) (pss_one (ps_aug (i := 3) sc_cancelled.nd rfl (Or.inl rfl) pe_int ip_add)))
      (pss_one (ps_ret (pv 3))))), ?_⟩
    refine ⟨_, rfl, a, _, rfl, .inr hx, _, rfl, b, _, rfl, .inr hy, _, _, rfl, _, _, rfl, ?_⟩
    have e0 : (if ((iv y).length : Int) < ((iv x).length : Int) then ((iv y).length : Int) else ((iv x).length : Int)) = ((min x.length y.length : Nat) : Int) := by
      rw [iv_len, iv_len]; split <;> omega
    rw [e0]
    refine ⟨fun m σ H' => ∃ j : Nat, H' = H ∧ σ = [some (.ref a), some (.ref b), some (.int (min x.length y.length : Nat)), some (.int j)] ∧ j + m = min x.length y.length ∧ cancelled x y = cancelN x y m j, ⟨min x.length y.length, 0, rfl, rfl, by omega, rfl⟩, ?_⟩
    rintro m σ H' ⟨j, rfl, rfl, hm, hc⟩
    refine ⟨_, rfl, _, rfl, _, _, rfl, rfl, _, rfl, ?_⟩
    refine ite2 (fun hlt => ?_) (fun hge => ?_)
    · have hj : j < min x.length y.length := by have := of_decide_eq_true hlt; omega
      obtain ⟨f, rfl⟩ : ∃ f, m = f + 1 := ⟨m - 1, by omega⟩
      obtain ⟨u, hu⟩ : ∃ u, x[x.length - 1 - j]? = some u := ⟨_, List.getElem?_eq_getElem (by omega)⟩
      obtain ⟨v, hv⟩ : ∃ v, y[j]? = some v := ⟨_, List.getElem?_eq_getElem (by omega)⟩
      have ix : ((iv x).length : Int) - 1 - (j : Int) = ((x.length - 1 - j : Nat) : Int) := by rw [iv_len]; omega
      refine ⟨_, rfl, _, rfl, a, _, rfl, .inr hx, _, _, rfl, rfl, _, rfl, _, _, rfl, rfl, a, _, _, _, rfl, rfl, hx, at_of ix (iv_get hu), _, rfl, _, rfl, b, _, _, _, rfl, rfl, hy, atI_nat (iv_get hv), _, rfl, rfl, _, rfl, ?_⟩
      refine ite2 (fun heq => ?_) (fun hne => ?_)
      · refine ⟨fun σ' H'' => ∃ m', m' < f + 1 ∧ ∃ j : Nat, H'' = H' ∧ σ' = [some (.ref a), some (.ref b), some (.int (min x.length y.length : Nat)), some (.int j)] ∧ j + m' = min x.length y.length ∧ cancelled x y = cancelN x y m' j, fun _ _ z => z, ?_⟩
        refine ⟨_, rfl, _, _, rfl, rfl, f, Nat.lt_succ_self f, j + 1, rfl, rfl, by omega, ?_⟩
        have e1 : V.int u = V.int (-v) := of_decide_eq_true heq
        rw [hc]
        show cancelN x y (f + 1) j = _
        simp only [cancelN]
        rw [if_pos ⟨hj, by rw [hu, hv]; simpa using e1⟩]
      · have e1 : ¬ V.int u = V.int (-v) := fun z => hne (decide_eq_true z)
        have e2 : cancelled x y = j := by
          rw [hc]
          simp only [cancelN]
          rw [if_neg]
          rintro ⟨_, z⟩
          rw [hu, hv] at z
          exact e1 (by simpa using z)
        rw [e2] at k
        exact ⟨_, rfl, k⟩
    · have hj : ¬ j < min x.length y.length := fun z => hge (decide_eq_true (by omega))
      have hm0 : m = 0 := by omega
      subst hm0
      have e2 : cancelled x y = j := hc
      rw [e2] at k
      exact ⟨_, rfl, k⟩
/-! ### joined -/
open FG in
theorem red_meet {a b : Int} : ∀ {x y : List Int}, Red (x ++ [a]) → Red (b :: y) → a ≠ -b → Red ((x ++ [a]) ++ b :: y)
  | [], y, _, h2, n => ⟨n, h2⟩
  | [c], y, h1, h2, n => ⟨h1.1, n, h2⟩
  | c :: d :: x, y, h1, h2, n => ⟨h1.1, red_meet (x := d :: x) h1.2 h2 n⟩
open FG in
theorem cancelN_net {x y : List Int} (hx : Red x) (hy : Red y) : ∀ (f m : Nat), m + f = min x.length y.length → y.foldl push x = (y.drop m).foldl push (x.take (x.length - m)) →
    cancelN x y f m ≤ min x.length y.length ∧ y.foldl push x = x.take (x.length - cancelN x y f m) ++ y.drop (cancelN x y f m)
  | 0, m, hm, h => by
    refine ⟨by show m ≤ _; omega, ?_⟩
    rw [h]
    show _ = x.take (x.length - m) ++ y.drop m
    refine foldl_red _ ?_
    by_cases q : m = x.length
    · have e : x.take (x.length - m) = [] := by rw [q]; simp
      rw [e, List.nil_append]
      have := hy
      rw [← List.take_append_drop m y] at this
      exact Red.append_right this
    · have e : y.drop m = [] := List.drop_eq_nil_of_le (by omega)
      rw [e, List.append_nil]
      have := hx
      rw [← List.take_append_drop (x.length - m) x] at this
      exact Red.append_left this
  | f + 1, m, hm, h => by
    have l1 : m < x.length := by omega
    have l2 : m < y.length := by omega
    have ex : x.take (x.length - m) = x.take (x.length - (m + 1)) ++ [x[x.length - 1 - m]'(by omega)] := by
      have e : x.length - m = (x.length - (m + 1)) + 1 := by omega
      rw [e, List.take_add_one, List.getElem?_eq_getElem (by omega)]
      have e2 : x.length - (m + 1) = x.length - 1 - m := by omega
      simp [e2]
    have ey : y.drop m = y[m]'l2 :: y.drop (m + 1) := List.drop_eq_getElem_cons l2
    simp only [cancelN]
    by_cases c : x[x.length - 1 - m]? = (y[m]?).map (fun a => -a)
    · rw [if_pos ⟨by omega, c⟩]
      refine cancelN_net hx hy f (m + 1) (by omega) ?_
      rw [h, ex, ey, List.foldl_cons]
      rw [List.getElem?_eq_getElem (by omega), List.getElem?_eq_getElem l2] at c
      have c' : x[x.length - 1 - m]'(by omega) = - y[m]'l2 := by simpa using c
      rw [push_eq (by simp [c']), List.dropLast_concat]
    · rw [if_neg (fun z => c z.2)]
      refine ⟨by omega, ?_⟩
      rw [h]
      refine foldl_red _ ?_
      rw [ex, ey]
      have hr1 : Red (x.take (x.length - (m + 1)) ++ [x[x.length - 1 - m]'(by omega)]) := by
        rw [← ex]
        have := hx
        rw [← List.take_append_drop (x.length - m) x] at this
        exact Red.append_left this
      have hr2 : Red (y[m]'l2 :: y.drop (m + 1)) := by
        rw [← ey]
        have := hy
        rw [← List.take_append_drop m y] at this
        exact Red.append_right this
      have ne : x[x.length - 1 - m]'(by omega) ≠ -(y[m]'l2) := fun z => c (by
        rw [List.getElem?_eq_getElem (by omega), List.getElem?_eq_getElem l2]
        simpa using z)
      exact red_meet hr1 hr2 ne
open FG in
theorem joined_net {x y : List Int} (hx : Red x) (hy : Red y) : cancelled x y ≤ min x.length y.length ∧ net (x ++ y) = x.take (x.length - cancelled x y) ++ y.drop (cancelled x y) := by
  have h := cancelN_net hx hy (min x.length y.length) 0 (by omega) (by simp)
  have e : net (x ++ y) = y.foldl push x := by
    unfold net
    rw [List.foldl_append]
    congr 1
    have := foldl_red x (st := []) (by simpa using hx)
    simpa using this
  rw [e]
  exact h
/-- joined, of net doings -/
def sp_joined (K : PySem.W.Frag) : Sp := fun vs H Q _ => ∃ (a b : Addr) (x y : List Int), vs = [.ref a, .ref b] ∧ SqT K H a (iv x) ∧ SqT K H b (iv y) ∧ FG.Red x ∧ FG.Red y ∧ x.length + y.length ≤ 1000000 ∧ RetT K (iv (FG.net (x ++ y))) H Q
theorem c_joined (T : Tx K mg) : Cal P w K mg base 2 "joined" (sp_joined K) [] := by
  have c_cancelled := c_cancelled (P := P) (w := w) (base := base) T
  obtain ⟨fd, F⟩ := T.d_joined
  refine calD F T.g_joined (fun _ _ _ _ _ _ us hl => match us, hl with | [_, _], _ => rfl) sc_joined (fun vs H Q E h => ?_) (fun cdv A outer s H vs Q E hr h => ?_)
  · obtain ⟨a, b, x, y, rfl, _⟩ := h
    rfl
  · obtain ⟨a, b, x, y, rfl, hx, hy, rx, ry, hl, k⟩ := h
    refine ⟨_, (pss_cons (ps_set (i := 2) sc_joined.nd rfl (Or.inl rfl) (pe_c c_cancelled hr (by decide) rfl (pa_cons (pv 0) (pa_cons (pv 1) pa_nil))))
      (pss_one (ps_ret (pe_op op_catR (pe_slice sl_tupR (pv 0) po_none (po_some (pe_op op_sub (pe_callB call_len_seq rfl T.z_len (by decide +kernel) (pa_cons (pv 0) pa_nil)) (pv 2)))) (pe_slice sl_tupR (pv 1) (po_some (pv 2)) po_none))))), ?_⟩
    obtain ⟨hc, hn⟩ := joined_net rx ry
    refine ⟨_, rfl, _, rfl, a, b, x, y, rfl, hx, hy, ?_⟩
    -- x[: len(x) - many] + y[many:]
    have i1 : ((iv x).length : Int) - ((cancelled x y : Nat) : Int) = ((x.length - cancelled x y : Nat) : Int) := by rw [iv_len]; omega
    refine ⟨_, rfl, _, rfl, a, _, rfl, .inr hx, _, rfl, _, _, rfl, rfl, _, rfl, a, _, rfl, hx, fun p H1 s1 h1 => ?_⟩
    rw [i1] at h1
    refine ⟨_, rfl, _, rfl, _, rfl, b, _, rfl, s1.tup hy, fun q H2 s2 h2 => ?_⟩
    have e1 : cutV (iv x) none (some ((x.length - cancelled x y : Nat) : Int)) = iv (x.take (x.length - cancelled x y)) := by
      unfold cutV
      rw [HT.sIx_none, HT.sIx_nat, iv_len, Nat.min_eq_left (by omega), List.drop_zero, Nat.sub_zero]
      exact (List.map_take ..).symm
    have e2 : cutV (iv y) (some ((cancelled x y : Nat) : Int)) none = iv (y.drop (cancelled x y)) := by
      unfold cutV
      rw [HT.sIx_none, HT.sIx_nat, iv_len, Nat.min_eq_left (by omega), List.take_of_length_le (by simp)]
      exact (List.map_drop ..).symm
    rw [e1] at h1
    rw [e2] at h2
    refine ⟨p, q, _, _, rfl, rfl, s2.tup h1, h2, ?_, (k.go (s1.trans s2)).to ?_⟩
    · rw [iv_len, iv_len, List.length_take, List.length_drop, sizeLine_eq]; omega
    · rw [hn]; simp [iv]
end
end W43
namespace W43
open PySem PySem.Spec PyProof.Rows L2 OW
open C8 (Cal Met Mak pe_c pe_mt pe_mt0 pe_mk)
open FG (Red net readOn Dl signs mem_signs)
section
variable {P : Program} {w : World} {K : PySem.W.Frag} {mg : Str → Option Value} {base : Heap}
/-! ### read_on -/
def sp_read_on (K : PySem.W.Frag) : Sp := fun vs H Q _ => ∃ (a : Addr) (acts n p : Nat) (s : Int) (d : Dl), vs = [.ref a, .int (p : Nat), .int s] ∧ GrAt K H a acts n d ∧ p < n ∧ s ∈ signs acts ∧ Q (ov (d p s)) H
theorem c_read_on (T : Tx K mg) : Cal P w K mg base 1 "read_on" (sp_read_on K) [] := by
  obtain ⟨fd, F⟩ := T.d_read_on
  refine calD F T.g_read_on (fun _ _ _ _ _ _ us hl => match us, hl with | [_, _, _], _ => rfl) sc_read_on (fun vs H Q E h => ?_) (fun cdv A outer s H vs Q E hr h => ?_)
  · obtain ⟨a, acts, n, p, z, d, rfl, _⟩ := h
    rfl
  · obtain ⟨a, acts, n, p, z, d, rfl, hG, hp, hz, k⟩ := h
    refine ⟨_, (pss_cons (ps_set (i := 3) sc_read_on.nd rfl (Or.inl rfl) (pe_ix ix_tup (pe_ix ix_tup (pv 0) (pv 1) (fun _ _ => rfl)) (pe_op op_sub (pe_callB call_abs rfl T.z_abs (by decide +kernel) (pa_cons (pv 2) pa_nil)) pe_int) (fun _ _ => rfl)))
      (pss_one (ps_ret (pe_ifExp (pt_cmpR op_gt (pv 2) pe_int (nomark _)) (pe_ix ix_tup (pv 3) pe_int (fun _ _ => rfl)) (pe_ix ix_tup (pv 3) pe_int (fun _ _ => rfl)))))), ?_⟩
    rw [mem_signs] at hz
    obtain ⟨rows, prs, r, q, h1, h2, h3, h4, h5⟩ := hG.at hp (j := z.natAbs - 1) (by omega)
    have e1 : (if z < 0 then -z else z) - 1 = ((z.natAbs - 1 : Nat) : Int) := by split <;> omega
    refine ⟨_, rfl, _, rfl, a, _, _, _, rfl, rfl, h1, atI_nat h2, _, rfl, _, rfl, _, _, rfl, rfl, r, _, _, _, rfl, rfl, h3, at_of e1 h4, ?_⟩
    refine ⟨_, rfl, _, _, rfl, rfl, _, rfl, ?_⟩
    refine ite2 (fun hpos => ?_) (fun hneg => ?_)
    · have pos : 0 < z := of_decide_eq_true hpos
      have e2 : (((z.natAbs - 1 : Nat) : Int) + 1) = z := by omega
      rw [e2] at h5
      exact ⟨_, rfl, q, _, _, _, rfl, rfl, h5, at_of (j := 0) rfl rfl, k⟩
    · have neg : ¬ 0 < z := fun y => hneg (decide_eq_true y)
      have e2 : -(((z.natAbs - 1 : Nat) : Int) + 1) = z := by omega
      rw [e2] at h5
      exact ⟨_, rfl, q, _, _, _, rfl, rfl, h5, at_of (j := 1) rfl rfl, k⟩
/-! ### coset_behind -/
/-- where signs lead from places of the graph, there are places -/
def Inn (n : Nat) (d : Dl) : Prop := ∀ p s q, p < n → d p s = some q → q < n
def sp_coset_behind (K : PySem.W.Frag) : Sp := fun vs H Q _ => ∃ (a c b : Addr) (acts n p : Nat) (t x : List Int) (d : Dl), vs = [.ref a, .ref c, .ref b] ∧ GrAt K H a acts n d ∧ Inn n d ∧ CosAt K H c p t ∧ SqT K H b (iv x) ∧ p < n ∧ Red t ∧ Red x ∧
  (∀ s ∈ t, s ∈ signs acts) ∧ (∀ s ∈ x, s ∈ signs acts) ∧ t.length + x.length ≤ 1000000 ∧ ∀ c' H', Same H H' → CosAt K H' c' (readOn d p (net (t ++ x))).1 (readOn d p (net (t ++ x))).2 → Q (.ref c') H'
theorem c_coset_behind (T : Tx K mg) : Cal P w K mg base 3 "coset_behind" (sp_coset_behind K) [] := by
  have c_joined := c_joined (P := P) (w := w) (base := base) T
  have c_read_on := c_read_on (P := P) (w := w) (base := base) T
  obtain ⟨fd, F⟩ := T.d_coset_behind
  refine calD F T.g_coset_behind (fun _ _ _ _ _ _ us hl => match us, hl with | [_, _, _], _ => rfl) sc_coset_behind (fun vs H Q E h => ?_) (fun cdv A outer s H vs Q E hr h => ?_)
  · obtain ⟨a, c, b, acts, n, p, t, x, d, rfl, _⟩ := h
    rfl
  · obtain ⟨a, c, b, acts, n, p, t, x, d, rfl, hG, hI, hC, hb, hp, rt, rx, st, sx, hl, k⟩ := h
    refine ⟨_, (pss_cons (ps_par (i := 3) (j := 4) rfl sc_coset_behind.nd rfl rfl (by decide) rfl rfl (pa_cons (pe_ix ix_tup (pv 1) pe_int (fun _ _ => rfl)) (pa_cons (pe_c c_joined hr (by decide) rfl (pa_cons (pe_ix ix_tup (pv 1) pe_int (fun _ _ => rfl)) (pa_cons (pv 2) pa_nil))) pa_nil)) (by rfl))
      (pss_cons (ps_while PassesOwn.never (PW.pt (pw_and (pt_cmpR (op_neD hr.units) (pv 4) (pe_tup pa_nil) (nomark _)) (pw_and1 (pt_cmpR op_notN (pe_c c_read_on hr (by decide) rfl (pa_cons (pv 0) (pa_cons (pv 3) (pa_cons (pe_ix ix_tup (pv 4) pe_int (fun _ _ => rfl)) pa_nil)))) pe_non (nomark _))))) (pss_one (ps_par (i := 3) (j := 4) rfl sc_coset_behind.nd rfl rfl (by decide) rfl rfl (pa_cons (pe_c c_read_on hr (by decide) rfl (pa_cons (pv 0) (pa_cons (pv 3) (pa_cons (pe_ix ix_tup (pv 4) pe_int (fun _ _ => rfl)) pa_nil)))) (pa_cons (pe_slice sl_tupR (pv 4) (po_some pe_int) po_none) pa_nil)) (by rfl))))
      (pss_one (ps_ret (pe_tup (pa_cons (pv 3) (pa_cons (pv 4) pa_nil))))))), ?_⟩
    obtain ⟨e, hc, he⟩ := hC
    -- place, tail = coset[0], joined(coset[1], doing)
    refine ⟨_, rfl, c, _, _, _, rfl, rfl, hc, at_of (j := 0) rfl rfl, _, rfl, c, _, _, _, rfl, rfl, hc, at_of (j := 1) rfl rfl, _, rfl, e, b, t, x, rfl, he, hb, rt, rx, hl, fun y H1 s1 hy => ?_⟩
    refine ⟨_, _, rfl, ?_⟩
    -- while
    refine ⟨fun m σ H' => ∃ (q : Nat) (u : List Int) (y : Addr), Same H H' ∧ σ = [some (.ref a), some (.ref c), some (.ref b), some (.int (q : Nat)), some (.ref y)] ∧ SqT K H' y (iv u) ∧ q < n ∧ (∀ s ∈ u, s ∈ signs acts) ∧ u.length = m ∧ readOn d q u = readOn d p (net (t ++ x)),
      ⟨_, p, _, y, s1, rfl, hy, hp, fun s hs => ?_, rfl, rfl⟩, ?_⟩
    · have := FG.net_sub _ hs
      rcases List.mem_append.mp this with z | z
      · exact st s z
      · exact sx s z
    rintro m σ H' ⟨q, u, y, s1, rfl, hy, hq, hu, hm, hr⟩
    refine ⟨_, rfl, Nat.zero_le _, fun v hv => ?_⟩
    refine ⟨_, _, dp_iv ((Same.new hv).tup hy), dp_iv (x := []) (SqT.of upd_same), shaped_iv _, shaped_iv _, ?_⟩
    rw [eqv_iv]
    refine ⟨_, rfl, ?_⟩
    have s2 := s1.trans (Same.new hv (o := .tup []))
    have fin : (readOn d q u).1 = q → (readOn d q u).2 = u → ∀ H', Same H H' → ∀ z, SqT K H' z (iv u) → ∀ f, H' f = none → Q (.ref f) (upd H' f (.tup [.int (q : Nat), .ref z])) := fun e1 e2 H' sh z hz f hf => by
      refine k f _ (sh.trans (Same.new hf)) ?_
      rw [← hr, e1, e2]
      exact ⟨z, SqT.of upd_same, (Same.new hf).tup hz⟩
    cases u with
    | nil =>
      refine iteF ?_
      refine iteF ?_
      refine ⟨_, rfl, _, rfl, by show 2 ≤ sizeLine; decide, fun f hf => fin rfl rfl _ s2 _ ((Same.new hv).tup hy) f hf⟩
    | cons i u =>
      refine iteT ?_
      have hy2 := (Same.new hv (o := .tup [])).tup hy
      have hi : i ∈ signs acts := hu i (by simp)
      refine ⟨_, rfl, _, rfl, _, rfl, y, _, _, _, rfl, rfl, hy2, at_of (j := 0) rfl rfl, a, acts, n, q, i, d, rfl, hG.go s2, hq, hi, ?_⟩
      refine ⟨rfl, _, rfl, ?_⟩
      cases e1 : d q i with
      | none =>
        refine iteF ?_
        refine ⟨_, rfl, _, rfl, by show 2 ≤ sizeLine; decide, fun f hf => fin ?_ ?_ _ s2 _ hy2 f hf⟩
        · simp [readOn, e1]
        · simp [readOn, e1]
      | some q' =>
        refine iteT ?_
        refine ⟨fun σ' H'' => ∃ m', m' < m ∧ ∃ (q : Nat) (u : List Int) (y : Addr), Same H H'' ∧ σ' = [some (.ref a), some (.ref c), some (.ref b), some (.int (q : Nat)), some (.ref y)] ∧ SqT K H'' y (iv u) ∧ q < n ∧ (∀ s ∈ u, s ∈ signs acts) ∧ u.length = m' ∧ readOn d q u = readOn d p (net (t ++ x)), fun _ _ z => z, ?_⟩
        refine ⟨_, rfl, _, rfl, _, rfl, y, _, _, _, rfl, rfl, hy2, at_of (j := 0) rfl rfl, a, acts, n, q, i, d, rfl, hG.go s2, hq, hi, ?_⟩
        refine ⟨_, rfl, _, rfl, y, _, rfl, hy2, fun f H3 s3 h3 => ?_⟩
        rw [e1]
        refine ⟨_, _, rfl, u.length, by rw [← hm]; simp, q', u, f, s2.trans s3, rfl, ?_, hI q i q' hq e1, fun z hz => hu z (by simp [hz]), rfl, ?_⟩
        · have e2 : cutV (iv (i :: u)) (some 1) none = iv u := by
            unfold cutV
            have : HT.sIx (iv (i :: u)).length 0 (some 1) = 1 := by
              rw [show (1 : Int) = ((1 : Nat) : Int) from rfl, HT.sIx_nat, iv_len, List.length_cons]
              omega
            rw [this, HT.sIx_none]
            exact List.take_of_length_le (by simp)
          rw [← e2]
          exact h3
        · rw [← hr]
          simp [readOn, e1]
/-! ### is_member -/
def sp_is_member (K : PySem.W.Frag) : Sp := fun vs H Q _ => ∃ (a b : Addr) (acts n : Nat) (x : List Int) (d : Dl), vs = [.ref a, .ref b] ∧ GrAt K H a acts n d ∧ Inn n d ∧ SqT K H b (iv x) ∧ 0 < n ∧ Red x ∧
  (∀ s ∈ x, s ∈ signs acts) ∧ x.length ≤ 1000000 ∧ ∀ H', Same H H' → Q (.bl (decide (readOn d 0 x = (0, [])))) H'
theorem c_is_member (T : Tx K mg) : Cal P w K mg base 4 "is_member" (sp_is_member K) [] := by
  have c_coset_behind := c_coset_behind (P := P) (w := w) (base := base) T
  obtain ⟨fd, F⟩ := T.d_is_member
  refine calD F T.g_is_member (fun _ _ _ _ _ _ us hl => match us, hl with | [_, _], _ => rfl) sc_is_member (fun vs H Q E h => ?_) (fun cdv A outer s H vs Q E hr h => ?_)
  · obtain ⟨a, b, acts, n, x, d, rfl, _⟩ := h
    rfl
  · obtain ⟨a, b, acts, n, x, d, rfl, hG, hI, hb, hn, rx, sx, hl, k⟩ := h
    refine ⟨_, (pss_one (ps_ret (pe_cmpR (op_eqD hr.units) (pe_c c_coset_behind hr (by decide) rfl (pa_cons (pv 0) (pa_cons (pe_tup (pa_cons pe_int (pa_cons (pe_tup pa_nil) pa_nil))) (pa_cons (pv 1) pa_nil)))) (pe_tup (pa_cons pe_int (pa_cons (pe_tup pa_nil) pa_nil))) (nomark _)))), ?_⟩
    refine ⟨_, rfl, Nat.zero_le _, fun e he => ?_⟩
    refine ⟨by show 2 ≤ sizeLine; decide, fun c hc => ?_⟩
    have s1 := Same.new he (o := .tup [])
    have s2 := Same.new hc (o := .tup [.int 0, .ref e])
    refine ⟨_, rfl, a, c, b, acts, n, 0, [], x, d, rfl, (hG.go s1).go s2, hI, ⟨e, SqT.of upd_same, s2.tup (SqT.of upd_same)⟩, s2.tup (s1.tup hb), hn, trivial, rx, fun _ z => (nomatch z), sx, by simpa using hl, fun c' H' s3 h3 => ?_⟩
    rw [List.nil_append, FG.net_red rx] at h3
    refine ⟨Nat.zero_le _, fun e2 he2 => ?_⟩
    refine ⟨by show 2 ≤ sizeLine; decide, fun c2 hc2 => ?_⟩
    have s4 := Same.new he2 (o := .tup [])
    have s5 := Same.new hc2 (o := .tup [.int 0, .ref e2])
    have h0 : CosAt K _ c2 0 [] := ⟨e2, SqT.of (upd_same (H := upd H' e2 (.tup [])) (a := c2) (o := .tup [.int 0, .ref e2])), s5.tup (SqT.of upd_same)⟩
    refine ⟨_, _, ((h3.go s4).go s5).dp, h0.dp, shaped_cos _ _, shaped_cos _ _, ?_⟩
    rw [eqv_cos]
    exact k _ ((((s1.trans s2).trans s3).trans s4).trans s5)
end
end W43
/-! A Folding on the heap. -/
namespace W43
open PySem PySem.Spec PyProof.Rows L2 OW
open FG (Fo rep Down endsOf putEnd putEdge newP putLoop fo0 InvF InvL Flat)
theorem nodup_ix {l : List Addr} (n : l.Nodup) {i j : Nat} {a : Addr} (h : l[i]? = some a) (h' : l[j]? = some a) : i = j := by
  obtain ⟨h1, h2⟩ := List.getElem?_eq_some_iff.mp h
  obtain ⟨h3, h4⟩ := List.getElem?_eq_some_iff.mp h'
  rw [← n.idxOf_getElem i h1, ← n.idxOf_getElem j h3, h2, h4]
/-- numbers as items -/
abbrev nv (l : List Nat) : List V := l.map fun n => V.int (n : Nat)
abbrev rv (l : List Addr) : List V := l.map V.ref
def eK (l : List (Int × Nat)) : List (Key × V) := l.map fun e => (Sum.inl e.1, V.int (e.2 : Nat))
theorem valV_eK (l : List (Int × Nat)) (s : Int) : valV (eK l) (Sum.inl s) = (l.lookup s).map fun q => V.int (q : Nat) := by
  induction l with
  | nil => rfl
  | cons a l ih =>
    obtain ⟨t, q⟩ := a
    unfold valV at ih ⊢
    simp only [eK, List.map_cons, List.find?_cons, List.lookup_cons]
    by_cases h : s = t
    · subst h; simp
    · have e1 : (s == t) = false := by simp [h]
      have e2 : decide ((Sum.inl t : Key) = Sum.inl s) = false := decide_eq_false fun z => h (Sum.inl.inj z).symm
      rw [e1]
      simp only [e2]
      exact ih
theorem putK_eK {l : List (Int × Nat)} {s : Int} {q : Nat} (h : l.lookup s = none) : putK (eK l) (Sum.inl s) (V.int (q : Nat)) = eK (l ++ [(s, q)]) := by
  have no := FG.lookup_none h
  unfold putK
  rw [if_neg]
  · simp [eK]
  · intro z
    rw [List.any_eq_true] at z
    obtain ⟨x, hx, hk⟩ := z
    obtain ⟨e, he, rfl⟩ := List.mem_map.mp hx
    have : (Sum.inl e.1 : Key) = Sum.inl s := of_decide_eq_true hk
    exact no (List.mem_map.mpr ⟨e, he, Sum.inl.inj this⟩)
theorem eK_len (l : List (Int × Nat)) : (eK l).length = l.length := by simp [eK]
/-- the fields -/
def ff (pa ea wa : Addr) : List (Str × V) := putF "waiting" (.ref wa) (putF "ends" (.ref ea) (putF "parents" (.ref pa) []))
theorem pe_ : ¬ (("parents" : Str) = "ends") := by decide +kernel
theorem pw_ : ¬ (("parents" : Str) = "waiting") := by decide +kernel
theorem ew_ : ¬ (("ends" : Str) = "waiting") := by decide +kernel
section
variable (pa ea wa : Addr)
theorem ff_parents : (ff pa ea wa).lookup ("parents" : Str) = some (.ref pa) := by
  unfold ff
  rw [lookup_putF, if_neg pw_, lookup_putF, if_neg pe_, lookup_putF, if_pos rfl]
theorem ff_ends : (ff pa ea wa).lookup ("ends" : Str) = some (.ref ea) := by
  unfold ff
  rw [lookup_putF, if_neg ew_, lookup_putF, if_pos rfl]
theorem ff_waiting : (ff pa ea wa).lookup ("waiting" : Str) = some (.ref wa) := by
  unfold ff
  rw [lookup_putF, if_pos rfl]
theorem ff_no {m : Str} (h1 : ¬ m = "waiting") (h2 : ¬ m = "ends") (h3 : ¬ m = "parents") : (ff pa ea wa).lookup m = none := by
  unfold ff
  rw [lookup_putF, if_neg h1, lookup_putF, if_neg h2, lookup_putF, if_neg h3]
  rfl
theorem ff_place_for : (ff pa ea wa).lookup ("place_for" : Str) = none := ff_no _ _ _ (by decide +kernel) (by decide +kernel) (by decide +kernel)
theorem ff_new : (ff pa ea wa).lookup ("new" : Str) = none := ff_no _ _ _ (by decide +kernel) (by decide +kernel) (by decide +kernel)
theorem ff_put_end : (ff pa ea wa).lookup ("put_end" : Str) = none := ff_no _ _ _ (by decide +kernel) (by decide +kernel) (by decide +kernel)
theorem ff_put_edge : (ff pa ea wa).lookup ("put_edge" : Str) = none := ff_no _ _ _ (by decide +kernel) (by decide +kernel) (by decide +kernel)
theorem ff_put_loop : (ff pa ea wa).lookup ("put_loop" : Str) = none := ff_no _ _ _ (by decide +kernel) (by decide +kernel) (by decide +kernel)
theorem ff_fold : (ff pa ea wa).lookup ("fold" : Str) = none := ff_no _ _ _ (by decide +kernel) (by decide +kernel) (by decide +kernel)
theorem ff_numbered : (ff pa ea wa).lookup ("numbered" : Str) = none := ff_no _ _ _ (by decide +kernel) (by decide +kernel) (by decide +kernel)
end
/-- a dict that is walked over: which one's, where, how it stood -/
abbrev Lk := Option (Nat × Obj)
def lkw (lk : Lk) (j : Nat) (u : HO) : HO := match lk with
  | some (k, o) => if j = k then .frz o u else u
  | none => u
structure FoIn (C : Addr) (H0 H : Hp) (f dx pa ea wa : Addr) (ds wr : List Addr) (F : Fo) (lk : Lk) : Prop where
  same : Same H0 H
  nf : H0 f = none
  npa : H0 pa = none
  nea : H0 ea = none
  nwa : H0 wa = none
  nds : ∀ d ∈ ds, H0 d = none
  f_ : H f = some (.ins C dx (ff pa ea wa))
  pa_ : H pa = some (.lst (nv F.ps))
  ea_ : H ea = some (.lst (rv ds))
  wa_ : H wa = some (.lst (rv wr))
  n1 : pa ≠ ea
  n2 : pa ≠ wa
  n3 : ea ≠ wa
  nod : ds.Nodup
  dl : ds.length = F.ps.length
  el : F.es.length = F.ps.length
  d_ : ∀ (j : Nat) (d : Addr), ds[j]? = some d → H d = some (lkw lk j (.dK (eK (endsOf F j))))
  wl : wr.length = F.ws.length
  w_ : ∀ (j : Nat) (t : Addr), wr[j]? = some t → ∃ a b, F.ws[j]? = some (a, b) ∧ H t = some (.tup [.int (a : Nat), .int (b : Nat)])
section
variable {C : Addr} {H0 H H' : Hp} {f dx pa ea wa : Addr} {ds wr : List Addr} {F : Fo} {lk : Lk}
theorem lkw_lst {lk : Lk} {j : Nat} {u : List (Key × V)} {xs : List V} : (HO.lst xs) ≠ lkw lk j (.dK u) := by
  unfold lkw
  split
  · split <;> (intro z; cases z)
  · intro z; cases z
theorem lkw_ins {lk : Lk} {j : Nat} {u : List (Key × V)} {C dx : Addr} {l : List (Str × V)} : (HO.ins C dx l) ≠ lkw lk j (.dK u) := by
  unfold lkw
  split
  · split <;> (intro z; cases z)
  · intro z; cases z
theorem lkw_tup {lk : Lk} {j : Nat} {u : List (Key × V)} {xs : List V} : (HO.tup xs) ≠ lkw lk j (.dK u) := by
  unfold lkw
  split
  · split <;> (intro z; cases z)
  · intro z; cases z
/-- fresh things beside it -/
theorem FoIn.kept (i : FoIn C H0 H f dx pa ea wa ds wr F lk) (s : Same H H') : FoIn C H0 H' f dx pa ea wa ds wr F lk :=
  ⟨i.same.trans s, i.nf, i.npa, i.nea, i.nwa, i.nds, s _ _ i.f_, s _ _ i.pa_, s _ _ i.ea_, s _ _ i.wa_, i.n1, i.n2, i.n3, i.nod, i.dl, i.el, fun j d h => s _ _ (i.d_ j d h), i.wl, fun j t h => by
    obtain ⟨a, b, h1, h2⟩ := i.w_ j t h
    exact ⟨a, b, h1, s _ _ h2⟩⟩
theorem same_upd {a : Addr} {o : HO} (s : Same H0 H) (n : H0 a = none) : Same H0 (upd H a o) := fun b u e => by
  rw [upd_ne (ne_of_none e n)]; exact s _ _ e
/-- other parents -/
theorem FoIn.setPs (i : FoIn C H0 H f dx pa ea wa ds wr F lk) {ps : List Nat} (hl : ps.length = F.ps.length) : FoIn C H0 (upd H pa (.lst (nv ps))) f dx pa ea wa ds wr { F with ps := ps } lk := by
  have n0 : f ≠ pa := ne_of i.f_ i.pa_ (fun z => by cases z)
  refine ⟨same_upd i.same i.npa, i.nf, i.npa, i.nea, i.nwa, i.nds, by rw [upd_ne n0]; exact i.f_, upd_same, by rw [upd_ne i.n1.symm]; exact i.ea_, by rw [upd_ne i.n2.symm]; exact i.wa_, i.n1, i.n2, i.n3, i.nod, i.dl.trans hl.symm, i.el.trans hl.symm, fun j d h => ?_, i.wl, fun j t h => ?_⟩
  · have h1 := i.d_ j d h
    rw [upd_ne (ne_of i.pa_ h1 lkw_lst).symm]; exact h1
  · obtain ⟨a, b, h1, h2⟩ := i.w_ j t h
    refine ⟨a, b, h1, ?_⟩
    rw [upd_ne (ne_of i.pa_ h2 (fun z => by cases z)).symm]; exact h2
/-- one more waits -/
theorem FoIn.setWs (i : FoIn C H0 H f dx pa ea wa ds wr F lk) {wr' : List Addr} {ws : List (Nat × Nat)} (wl : wr'.length = ws.length)
    (w_ : ∀ (j : Nat) (t : Addr), wr'[j]? = some t → ∃ a b, ws[j]? = some (a, b) ∧ H t = some (.tup [.int (a : Nat), .int (b : Nat)])) : FoIn C H0 (upd H wa (.lst (rv wr'))) f dx pa ea wa ds wr' { F with ws := ws } lk := by
  have n0 : f ≠ wa := ne_of i.f_ i.wa_ (fun z => by cases z)
  refine ⟨same_upd i.same i.nwa, i.nf, i.npa, i.nea, i.nwa, i.nds, by rw [upd_ne n0]; exact i.f_, by rw [upd_ne i.n2]; exact i.pa_, by rw [upd_ne i.n3]; exact i.ea_, upd_same, i.n1, i.n2, i.n3, i.nod, i.dl, i.el, fun j d h => ?_, wl, fun j t h => ?_⟩
  · have h1 := i.d_ j d h
    rw [upd_ne (ne_of i.wa_ h1 lkw_lst).symm]; exact h1
  · obtain ⟨a, b, h1, h2⟩ := w_ j t h
    refine ⟨a, b, h1, ?_⟩
    rw [upd_ne (ne_of i.wa_ h2 (fun z => by cases z)).symm]; exact h2
/-- one place's ends -/
theorem FoIn.setEs (i : FoIn C H0 H f dx pa ea wa ds wr F lk) {p : Nat} {d : Addr} {l : List (Int × Nat)} (hd : ds[p]? = some d) (hp : ∀ k o, lk = some (k, o) → p ≠ k) :
    FoIn C H0 (upd H d (.dK (eK l))) f dx pa ea wa ds wr { F with es := F.es.set p l } lk := by
  have lkp : ∀ u, lkw lk p u = u := fun u => by
    unfold lkw
    split
    · rename_i k o
      rw [if_neg (hp k o rfl)]
    · rfl
  have hH := i.d_ p d hd
  have lp : p < ds.length := (List.getElem?_eq_some_iff.mp hd).1
  rw [lkp] at hH
  have nd : H0 d = none := i.nds d (List.mem_of_getElem? hd)
  refine ⟨same_upd i.same nd, i.nf, i.npa, i.nea, i.nwa, i.nds, ?_, ?_, ?_, ?_, i.n1, i.n2, i.n3, i.nod, i.dl, by simpa using i.el, fun j e h => ?_, i.wl, fun j t h => ?_⟩
  · rw [upd_ne (ne_of i.f_ hH (fun z => by cases z))]; exact i.f_
  · rw [upd_ne (ne_of i.pa_ hH (fun z => by cases z))]; exact i.pa_
  · rw [upd_ne (ne_of i.ea_ hH (fun z => by cases z))]; exact i.ea_
  · rw [upd_ne (ne_of i.wa_ hH (fun z => by cases z))]; exact i.wa_
  · rw [FG.endsOf_set (by rw [i.el, ← i.dl]; exact lp)]
    by_cases q : j = p
    · subst q
      rw [hd] at h; cases h
      rw [upd_same, if_pos rfl, lkp]
    · rw [if_neg q]
      have : e ≠ d := by
        rintro rfl
        exact q (nodup_ix i.nod h hd)
      rw [upd_ne this]
      exact i.d_ j e h
  · obtain ⟨a, b, h1, h2⟩ := i.w_ j t h
    refine ⟨a, b, h1, ?_⟩
    rw [upd_ne (ne_of h2 hH (fun z => by cases z))]; exact h2
/-- a new place -/
theorem FoIn.fresh (i : FoIn C H0 H f dx pa ea wa ds wr F none) {d : Addr} (hd : H d = some (.dK [])) (nd : H0 d = none) (hn : d ∉ ds) :
    FoIn C H0 (upd (upd H pa (.lst (nv (F.ps ++ [F.ps.length])))) ea (.lst (rv (ds ++ [d])))) f dx pa ea wa (ds ++ [d]) wr (newP F) none := by
  have n0 : f ≠ pa := ne_of i.f_ i.pa_ (fun z => by cases z)
  have n4 : f ≠ ea := ne_of i.f_ i.ea_ (fun z => by cases z)
  refine ⟨same_upd (same_upd i.same i.npa) i.nea, i.nf, i.npa, i.nea, i.nwa, fun e he => ?_, ?_, ?_, upd_same, ?_, i.n1, i.n2, i.n3, ?_, ?_, ?_, fun j e h => ?_, i.wl, fun j t h => ?_⟩
  · rcases List.mem_append.mp he with z | z
    · exact i.nds e z
    · simp at z; rw [z]; exact nd
  · rw [upd_ne n4, upd_ne n0]; exact i.f_
  · rw [upd_ne i.n1, upd_same]; rfl
  · rw [upd_ne i.n3.symm, upd_ne i.n2.symm]; exact i.wa_
  · rw [List.nodup_append]
    refine ⟨i.nod, by simp, fun a ha b hb => ?_⟩
    simp at hb; subst hb
    exact fun e => hn (e ▸ ha)
  · simp [newP, i.dl]
  · simp [newP, i.el]
  · have key : ∀ u, H e = some (.dK u) → (upd (upd H pa (.lst (nv (F.ps ++ [F.ps.length])))) ea (.lst (rv (ds ++ [d])))) e = some (.dK u) := fun u hu => by
      rw [upd_ne (ne_of hu i.ea_ (fun z => by cases z)), upd_ne (ne_of hu i.pa_ (fun z => by cases z))]; exact hu
    rw [List.getElem?_append] at h
    by_cases q : j < ds.length
    · rw [if_pos q] at h
      have h1 := key _ (i.d_ j e h)
      rw [h1]
      have : endsOf (newP F) j = endsOf F j := by
        unfold endsOf newP
        simp only [List.getD_eq_getElem?_getD, List.getElem?_append]
        rw [if_pos (by rw [i.el, ← i.dl]; exact q)]
      rw [this]; rfl
    · rw [if_neg q] at h
      have ej : j = ds.length := by
        by_cases z : j - ds.length = 0
        · omega
        · obtain ⟨h1, _⟩ := List.getElem?_eq_some_iff.mp h
          simp at h1; omega
      subst ej
      simp at h
      subst h
      rw [key _ hd]
      have : endsOf (newP F) ds.length = [] := by
        unfold endsOf newP
        simp only [List.getD_eq_getElem?_getD, List.getElem?_append]
        rw [if_neg (by rw [i.el, ← i.dl]; omega), i.el, ← i.dl]
        simp
      rw [this]; rfl
  · obtain ⟨a, b, h1, h2⟩ := i.w_ j t h
    refine ⟨a, b, h1, ?_⟩
    rw [upd_ne (ne_of h2 i.ea_ (fun z => by cases z)), upd_ne (ne_of h2 i.pa_ (fun z => by cases z))]; exact h2
theorem FoIn.dict (i : FoIn C H0 H f dx pa ea wa ds wr F lk) {p : Nat} (hp : p < F.ps.length) : ∃ d, ds[p]? = some d ∧ (rv ds)[p]? = some (.ref d) ∧ H d = some (lkw lk p (.dK (eK (endsOf F p)))) := by
  have : p < ds.length := by rw [i.dl]; exact hp
  refine ⟨ds[p], List.getElem?_eq_getElem this, by simp [this], i.d_ p _ (List.getElem?_eq_getElem this)⟩
/-- the walked-over dict is let go -/
theorem FoIn.unlock {k : Nat} {o : Obj} (i : FoIn C H0 H f dx pa ea wa ds wr F (some (k, o))) {d : Addr} (hd : ds[k]? = some d) : H d = some (.frz o (.dK (eK (endsOf F k)))) ∧ FoIn C H0 (upd H d (.dK (eK (endsOf F k)))) f dx pa ea wa ds wr F none := by
  have hH : H d = some (.frz o (.dK (eK (endsOf F k)))) := by
    have := i.d_ k d hd
    simpa [lkw] using this
  have nd : H0 d = none := i.nds d (List.mem_of_getElem? hd)
  refine ⟨hH, same_upd i.same nd, i.nf, i.npa, i.nea, i.nwa, i.nds, ?_, ?_, ?_, ?_, i.n1, i.n2, i.n3, i.nod, i.dl, i.el, fun j e h => ?_, i.wl, fun j t h => ?_⟩
  · rw [upd_ne (ne_of i.f_ hH (fun z => by cases z))]; exact i.f_
  · rw [upd_ne (ne_of i.pa_ hH (fun z => by cases z))]; exact i.pa_
  · rw [upd_ne (ne_of i.ea_ hH (fun z => by cases z))]; exact i.ea_
  · rw [upd_ne (ne_of i.wa_ hH (fun z => by cases z))]; exact i.wa_
  · by_cases q : j = k
    · subst q
      rw [hd] at h; cases h
      rw [upd_same]; rfl
    · have : e ≠ d := by
        rintro rfl
        exact q (nodup_ix i.nod h hd)
      rw [upd_ne this, i.d_ j e h]
      simp [lkw, q]
  · obtain ⟨a, b, h1, h2⟩ := i.w_ j t h
    refine ⟨a, b, h1, ?_⟩
    rw [upd_ne (ne_of h2 hH (fun z => by cases z))]; exact h2
theorem FoIn.lock {k : Nat} {o : Obj} (i : FoIn C H0 H f dx pa ea wa ds wr F none) {d : Addr} (hd : ds[k]? = some d) : FoIn C H0 (upd H d (.frz o (.dK (eK (endsOf F k))))) f dx pa ea wa ds wr F (some (k, o)) := by
  have hH : H d = some (.dK (eK (endsOf F k))) := i.d_ k d hd
  have nd : H0 d = none := i.nds d (List.mem_of_getElem? hd)
  refine ⟨same_upd i.same nd, i.nf, i.npa, i.nea, i.nwa, i.nds, ?_, ?_, ?_, ?_, i.n1, i.n2, i.n3, i.nod, i.dl, i.el, fun j e h => ?_, i.wl, fun j t h => ?_⟩
  · rw [upd_ne (ne_of i.f_ hH (fun z => by cases z))]; exact i.f_
  · rw [upd_ne (ne_of i.pa_ hH (fun z => by cases z))]; exact i.pa_
  · rw [upd_ne (ne_of i.ea_ hH (fun z => by cases z))]; exact i.ea_
  · rw [upd_ne (ne_of i.wa_ hH (fun z => by cases z))]; exact i.wa_
  · by_cases q : j = k
    · subst q
      rw [hd] at h; cases h
      rw [upd_same]; simp [lkw]
    · have : e ≠ d := by
        rintro rfl
        exact q (nodup_ix i.nod h hd)
      rw [upd_ne this, i.d_ j e h]
      simp [lkw, q]
  · obtain ⟨a, b, h1, h2⟩ := i.w_ j t h
    refine ⟨a, b, h1, ?_⟩
    rw [upd_ne (ne_of h2 hH (fun z => by cases z))]; exact h2
end
/-- a Folding F at f, made behind H0 -/
def FoAt (K : PySem.W.Frag) (H0 H : Hp) (f : Addr) (F : Fo) : Prop := ∃ dx pa ea wa ds wr, FoIn (He.ga K "Folding") H0 H f dx pa ea wa ds wr F none
end W43
namespace W43
open PySem PySem.Spec PyProof.Rows L2 OW
open FG (Fo rep Down endsOf putEnd putEdge newP putLoop fo0 InvF InvL Flat)
theorem upd_comm {H : Hp} {a b : Addr} {x y : HO} (h : a ≠ b) : upd (upd H a x) b y = upd (upd H b y) a x := by
  funext c
  by_cases h1 : c = a
  · subst h1; rw [upd_ne h, upd_same, upd_same]
  · by_cases h2 : c = b
    · subst h2; rw [upd_same, upd_ne h1, upd_same]
    · rw [upd_ne h2, upd_ne h1, upd_ne h1, upd_ne h2]
theorem upd_twice {H : Hp} {a : Addr} {x y : HO} : upd (upd H a x) a y = upd H a y := by
  funext c
  by_cases h1 : c = a
  · subst h1; rw [upd_same, upd_same]
  · rw [upd_ne h1, upd_ne h1, upd_ne h1]
theorem none_of_upd {H : Hp} {a b : Addr} {x : HO} (h : (upd H a x) b = none) : H b = none ∧ b ≠ a := by
  by_cases e : b = a
  · subst e; rw [upd_same] at h; cases h
  · rw [upd_ne e] at h; exact ⟨h, e⟩
theorem ne_yes {p : Prop} [Decidable p] (h : (!decide p) = true) : ¬ p := fun z => by simp [z] at h
theorem ne_no {p : Prop} [Decidable p] (h : ¬ (!decide p) = true) : p := by
  by_cases z : p
  · exact z
  · simp [z] at h
theorem vint {a b : Int} : V.int a = V.int b ↔ a = b := ⟨fun h => by injection h, fun h => by rw [h]⟩
theorem vnat {a b : Nat} : V.int (a : Nat) = V.int (b : Nat) ↔ a = b := vint.trans Int.ofNat_inj
theorem nv_at {l : List Nat} {j n : Nat} (h : l[j]? = some n) : (nv l)[j]? = some (V.int (n : Nat)) := by
  rw [List.getElem?_map, h]; rfl
theorem nv_len (l : List Nat) : (nv l).length = l.length := List.length_map ..
theorem rv_len (l : List Addr) : (rv l).length = l.length := List.length_map ..
theorem rv_at {l : List Addr} {j : Nat} {n : Addr} (h : l[j]? = some n) : (rv l)[j]? = some (V.ref n) := by
  rw [List.getElem?_map, h]; rfl
section
variable {C : Addr} {H0 H H' : Hp} {f dx pa ea wa : Addr} {ds wr : List Addr} {F : Fo} {lk : Lk}
theorem FoIn.fresh' (i : FoIn C H0 H f dx pa ea wa ds wr F none) {d : Addr} (hd : (upd H pa (.lst (nv (F.ps ++ [F.ps.length])))) d = none) :
    FoIn C H0 (upd (upd (upd H pa (.lst (nv (F.ps ++ [F.ps.length])))) d (.dK [])) ea (.lst (rv (ds ++ [d])))) f dx pa ea wa (ds ++ [d]) wr (newP F) none := by
  obtain ⟨h1, h2⟩ := none_of_upd hd
  have i2 := i.kept (H' := upd H d (.dK [])) (Same.new h1)
  have := i2.fresh upd_same (i.same.free h1) (fun z => by
    obtain ⟨j, hj⟩ := List.getElem?_of_mem z
    have := i.d_ j d hj
    rw [h1] at this; cases this)
  rwa [upd_comm h2] at this
/-- the heap just behind Folding() -/
theorem foIn0 {K : PySem.W.Frag} (s0 : Same H0 H) (f0 : H0 f = none) (hf : H f = some (.ins C dx [])) {d : Addr}
    (hpa : H pa = none) (hd : (upd (upd H pa (.lst [.int 0])) f (.ins C dx (putF "parents" (.ref pa) []))) d = none)
    (hea : (upd (upd (upd H pa (.lst [.int 0])) f (.ins C dx (putF "parents" (.ref pa) []))) d (.dK [])) ea = none)
    (hwa : (upd (upd (upd (upd (upd H pa (.lst [.int 0])) f (.ins C dx (putF "parents" (.ref pa) []))) d (.dK [])) ea (.lst [.ref d])) f (.ins C dx (putF "ends" (.ref ea) (putF "parents" (.ref pa) [])))) wa = none) :
    FoIn C H0 (upd (upd (upd (upd (upd (upd (upd H pa (.lst [.int 0])) f (.ins C dx (putF "parents" (.ref pa) []))) d (.dK [])) ea (.lst [.ref d])) f (.ins C dx (putF "ends" (.ref ea) (putF "parents" (.ref pa) [])))) wa (.lst [])) f (.ins C dx (ff pa ea wa)))
      f dx pa ea wa [d] [] fo0 none := by
  have a1 : f ≠ pa := ne_of_none hf hpa
  obtain ⟨b1, b2⟩ := none_of_upd hd
  obtain ⟨b3, b4⟩ := none_of_upd b1
  obtain ⟨c1, c2⟩ := none_of_upd hea
  obtain ⟨c3, c4⟩ := none_of_upd c1
  obtain ⟨c5, c6⟩ := none_of_upd c3
  obtain ⟨d1, d2⟩ := none_of_upd hwa
  obtain ⟨d3, d4⟩ := none_of_upd d1
  obtain ⟨d5, d6⟩ := none_of_upd d3
  obtain ⟨d7, d8⟩ := none_of_upd d5
  obtain ⟨d9, d10⟩ := none_of_upd d7
  have g1 := s0.free hpa
  have g2 := s0.free b3
  have g3 := s0.free c5
  have g4 := s0.free d9
  refine ⟨same_upd (same_upd (same_upd (same_upd (same_upd (same_upd (same_upd s0 g1) f0) g2) g3) f0) g4) f0, f0, g1, g3, g4, fun e he => by simp at he; rw [he]; exact g2, upd_same, ?_, ?_, ?_, c6.symm, d10.symm, d4.symm, by simp, rfl, rfl, fun j e h => ?_, rfl, fun j t h => (by simp at h)⟩
  · rw [upd_ne a1.symm, upd_ne d10.symm, upd_ne a1.symm, upd_ne c6.symm, upd_ne b4.symm, upd_ne a1.symm, upd_same]; rfl
  · rw [upd_ne c4, upd_ne d4.symm, upd_ne c4, upd_same]; rfl
  · rw [upd_ne d2, upd_same]; rfl
  · have : j = 0 ∧ e = d := by
      cases j with
      | zero => simp at h; exact ⟨rfl, h.symm⟩
      | succ j => simp at h
    obtain ⟨rfl, rfl⟩ := this
    rw [upd_ne b2, upd_ne d6.symm, upd_ne b2, upd_ne c2.symm, upd_same]; rfl
end
end W43
namespace W43
open PySem PySem.Spec PyProof.Rows L2 OW
open C8 (Cal Met Mak pe_c pe_mt pe_mt0 pe_mk)
open FG (Red net readOn Dl signs mem_signs Fo rep Down endsOf putEnd putEdge newP putLoop fo0 InvF InvL Flat mu)
section
variable {P : Program} {w : World} {K : PySem.W.Frag} {mg : Str → Option Value} {base : Heap}
/-! ### act_signs -/
theorem signs_succ (i : Nat) : FG.signs (i + 1) = FG.signs i ++ [((i : Nat) : Int) + 1, -(((i : Nat) : Int) + 1)] := by
  unfold FG.signs
  rw [List.range_succ, List.flatMap_append]; rfl
theorem signs_len (i : Nat) : (FG.signs i).length = 2 * i := by
  induction i with
  | zero => rfl
  | succ i ih => rw [signs_succ, List.length_append, ih]; simp; omega
def sp_act_signs (K : PySem.W.Frag) : Sp := fun vs H Q _ => ∃ (acts : Nat), vs = [.int (acts : Nat)] ∧ acts ≤ 1000 ∧ ∀ p H', Same H H' → H p = none → H' p = some (.lst (iv (FG.signs acts))) → Q (.ref p) H'
theorem c_act_signs (T : Tx K mg) : Cal P w K mg base 1 "act_signs" (sp_act_signs K) [] := by
  obtain ⟨fd, F⟩ := T.d_act_signs
  refine calD F T.g_act_signs (fun _ _ _ _ _ _ us hl => match us, hl with | [_], _ => rfl) sc_act_signs (fun vs H Q E h => ?_) (fun cdv A outer s H vs Q E hr h => ?_)
  · obtain ⟨acts, rfl, _⟩ := h
    rfl
  · obtain ⟨acts, rfl, ha, k⟩ := h
    refine ⟨_, (pss_cons (ps_set (i := 1) sc_act_signs.nd rfl (Or.inl rfl) (pe_lst pa_nil))
      (pss_cons (ps_for PassesOwn.never rfl (pi_range2 rfl T.z_range (pa_cons pe_int (pa_cons (pe_op op_add (pv 0) pe_int) pa_nil))) (pg_name (i := 2) sc_act_signs.nd rfl (Or.inl rfl)) (pss_one (ps_expr (pe_bm PySem.F.plainAttrs_list PySem.F.slot_list_extend PySem.F.type_list_extend mt_extend (pv 1) (pa_cons (pe_lst (pa_cons (pv 2) (pa_cons (pe_un un_neg (pv 2)) pa_nil))) pa_nil)))))
      (pss_one (ps_ret (pv 1))))), ?_⟩
    refine ⟨Nat.zero_le _, fun p hp => ?_⟩
    refine ⟨_, rfl, _, _, rfl, rfl, 1, (acts : Int) + 1, rfl, ⟨by decide, by decide, by omega, by omega⟩, ?_⟩
    have en : (((acts : Int) + 1) - 1).toNat = acts := by omega
    refine for_range (lo := 1) (n := (((acts : Int) + 1) - 1).toNat) (fun i σ H' => ∃ v, σ = [some (.int (acts : Nat)), some (.ref p), v] ∧ Same H H' ∧ H' p = some (.lst (iv (FG.signs i)))) ⟨_, rfl, Same.new hp, upd_same⟩ ?_ ?_
    · rintro i σ H' hi ⟨v, rfl, s1, h1⟩
      rw [en] at hi
      refine ⟨_, rfl, .inl ⟨rfl, _, SqL.of h1⟩, ?_⟩
      refine ⟨_, rfl, _, rfl, _, rfl, by show 2 ≤ sizeLine; decide, fun q hq => ?_⟩
      have n1 : p ≠ q := ne_of_none h1 hq
      refine ⟨p, q, _, _, rfl, rfl, by rw [upd_ne n1]; exact h1, upd_same, by rw [iv_len, signs_len]; show 2 * i + 2 ≤ sizeLine; have : (3000 : Nat) ≤ sizeLine := by decide
                                                                              omega, ?_⟩
      refine ⟨_, rfl, same_upd (s1.trans (Same.new hq)) hp, ?_⟩
      have e1 : (1 : Int) + i = (i : Int) + 1 := by omega
      rw [upd_same, signs_succ, e1]
      simp [iv]
    · rintro σ H' ⟨v, rfl, s1, h1⟩
      rw [en] at h1
      exact ⟨_, rfl, k _ _ s1 hp h1⟩
/-! ### Folding() -/
def sp_Folding_init (K : PySem.W.Frag) : Sp := fun vs H Q _ => ∃ (f dx : Addr) (H0 : Hp), vs = [.ref f] ∧ Same H0 H ∧ H0 f = none ∧ H f = some (.ins (He.ga K "Folding") dx []) ∧ ∀ H', FoAt K H0 H' f fo0 → Q .non H'
theorem c_Folding (T : Tx K mg) : Mak P w K mg base 1 "Folding" (He.ga K "Folding") (sp_Folding_init K) [] := by
  obtain ⟨fd, F⟩ := T.d_Folding_init
  refine makD T.g_Folding T.mk_Folding F (fun _ _ _ _ _ _ us hl => match us, hl with | [_], _ => rfl) sc_Folding_init (fun vs H Q E h => ?_) (fun cdv A outer s H vs Q E hr h => ?_)
  · obtain ⟨f, dx, H0, rfl, _⟩ := h
    rfl
  · obtain ⟨f, dx, H0, rfl, s0, f0, hf, k⟩ := h
    refine ⟨_, (pss_cons (ps_fld (pv 0) (pe_lst (pa_cons pe_int pa_nil)) rfl)
      (pss_cons (ps_fld (pv 0) (pe_lst (pa_cons pe_dnewK pa_nil)) rfl)
      (pss_one (ps_fld (pv 0) (pe_lst pa_nil) rfl)))), ?_⟩
    refine ⟨by show 1 ≤ sizeLine; decide, fun pa hpa => ?_⟩
    have n1 : f ≠ pa := ne_of_none hf hpa
    refine ⟨_, rfl, f, _, dx, [], rfl, (by rw [upd_ne n1]; exact hf), T.cl_Folding, T.na_Folding_parents, (by show 0 < 1000; decide), ?_⟩
    intro d hd
    refine ⟨by show 1 ≤ sizeLine; decide, fun ea hea => ?_⟩
    obtain ⟨z1, z2⟩ := none_of_upd hea
    obtain ⟨y1, y2⟩ := none_of_upd hd
    refine ⟨_, rfl, f, _, dx, _, rfl, (by rw [upd_ne (none_of_upd z1).2.symm, upd_ne y2.symm, upd_same]), T.cl_Folding, T.na_Folding_ends, (by show 1 < 1000; decide), ?_⟩
    refine ⟨Nat.zero_le _, fun wa hwa => ?_⟩
    obtain ⟨x1, x2⟩ := none_of_upd hwa
    refine ⟨_, rfl, f, _, dx, _, rfl, (upd_ne x2.symm).trans upd_same, T.cl_Folding, T.na_Folding_waiting, (by show 2 < 1000; decide), ?_⟩
    exact k _ ⟨_, _, _, _, _, _, foIn0 (K := K) s0 f0 hf hpa hd hea hwa⟩
/-! ### place_for -/
def sp_Folding_place_for (K : PySem.W.Frag) : Sp := fun vs H Q _ => ∃ (f : Addr) (H0 : Hp) (F : Fo) (p : Nat), vs = [.ref f, .int (p : Nat)] ∧ FoAt K H0 H f F ∧ Down F.ps ∧ p < F.ps.length ∧ Q (.int (rep F.ps p : Nat)) H
theorem m_Folding_place_for (T : Tx K mg) : Met P w K mg base 1 (He.ga K "Folding") "place_for" (sp_Folding_place_for K) [] := by
  obtain ⟨fd, F⟩ := T.d_Folding_place_for
  refine metD T.cl_Folding T.mt_Folding_place_for F (fun _ _ _ _ _ _ us hl => match us, hl with | [_, _], _ => rfl) sc_Folding_place_for (fun vs H Q E h => ?_) (fun cdv A outer s H vs Q E hr h => ?_)
  · obtain ⟨f, H0, F, p, rfl, _⟩ := h
    rfl
  · obtain ⟨f, H0, F, p, rfl, ⟨dx, pa, ea, wa, ds, wr, i⟩, hd, hp, k⟩ := h
    refine ⟨_, (pss_cons (ps_while PassesOwn.never (pt_cmpR op_ne (pe_ix ix_list (pe_fld (pv 0) rfl) (pv 1) (fun _ _ => rfl)) (pv 1) (nomark _)) (pss_one (ps_set (i := 1) sc_Folding_place_for.nd rfl (Or.inl rfl) (pe_ix ix_list (pe_fld (pv 0) rfl) (pv 1) (fun _ _ => rfl)))))
      (pss_one (ps_ret (pv 1)))), ?_⟩
    refine ⟨fun m σ H' => ∃ q : Nat, H' = H ∧ σ = [some (.ref f), some (.int (q : Nat))] ∧ q = m ∧ q < F.ps.length ∧ rep F.ps q = rep F.ps p, ⟨p, p, rfl, rfl, rfl, hp, rfl⟩, ?_⟩
    rintro m σ H' ⟨q, rfl, rfl, rfl, hq, hr⟩
    have at_ : (nv F.ps)[q]? = some (.int (F.ps.getD q q : Nat)) := by
      simp [List.getD_eq_getElem?_getD, hq]
    refine ⟨_, rfl, f, _, dx, _, _, rfl, i.f_, T.cl_Folding, T.na_Folding_parents, ff_parents _ _ _, _, rfl, pa, _, _, _, rfl, rfl, SqL.of i.pa_, atI_nat at_, _, rfl, rfl, _, rfl, ?_⟩
    refine ite2 (fun hne => ?_) (fun heq => ?_)
    · have ne : F.ps.getD q q ≠ q := fun z => by
        exact ne_yes hne (by rw [z])
      have le := hd q
      refine ⟨fun σ' H'' => ∃ m', m' < q ∧ ∃ q : Nat, H'' = H' ∧ σ' = [some (.ref f), some (.int (q : Nat))] ∧ q = m' ∧ q < F.ps.length ∧ rep F.ps q = rep F.ps p, fun _ _ z => z, ?_⟩
      refine ⟨_, rfl, f, _, dx, _, _, rfl, i.f_, T.cl_Folding, T.na_Folding_parents, ff_parents _ _ _, _, rfl, pa, _, _, _, rfl, rfl, SqL.of i.pa_, atI_nat at_, ?_⟩
      refine ⟨_, by omega, _, rfl, rfl, rfl, by omega, ?_⟩
      rw [← hr, FG.rep_eq hd q, if_neg ne]
    · have eq : F.ps.getD q q = q := vnat.mp (ne_no heq)
      rw [FG.rep_of_root hd eq] at hr
      rw [← hr] at k
      exact ⟨_, rfl, k⟩
/-! ### new -/
def sp_Folding_new (K : PySem.W.Frag) : Sp := fun vs H Q _ => ∃ (f : Addr) (H0 : Hp) (F : Fo), vs = [.ref f] ∧ FoAt K H0 H f F ∧ F.ps.length < 10000000 ∧ ∀ H', FoAt K H0 H' f (newP F) → Q (.int (F.ps.length : Nat)) H'
theorem m_Folding_new (T : Tx K mg) : Met P w K mg base 1 (He.ga K "Folding") "new" (sp_Folding_new K) [] := by
  obtain ⟨fd, F⟩ := T.d_Folding_new
  refine metD T.cl_Folding T.mt_Folding_new F (fun _ _ _ _ _ _ us hl => match us, hl with | [_], _ => rfl) sc_Folding_new (fun vs H Q E h => ?_) (fun cdv A outer s H vs Q E hr h => ?_)
  · obtain ⟨f, H0, F, rfl, _⟩ := h
    rfl
  · obtain ⟨f, H0, F, rfl, ⟨dx, pa, ea, wa, ds, wr, i⟩, hl, k⟩ := h
    refine ⟨_, (pss_cons (ps_expr (pe_bm PySem.F.plainAttrs_list PySem.F.slot_list_append PySem.F.type_list_append mt_append (pe_fld (pv 0) rfl) (pa_cons (pe_callB call_len_seq rfl T.z_len (by decide +kernel) (pa_cons (pe_fld (pv 0) rfl) pa_nil)) pa_nil)))
      (pss_cons (ps_expr (pe_bm PySem.F.plainAttrs_list PySem.F.slot_list_append PySem.F.type_list_append mt_append (pe_fld (pv 0) rfl) (pa_cons pe_dnewK pa_nil)))
      (pss_one (ps_ret (pe_op op_sub (pe_callB call_len_seq rfl T.z_len (by decide +kernel) (pa_cons (pe_fld (pv 0) rfl) pa_nil)) pe_int))))), ?_⟩
    refine ⟨_, rfl, f, _, dx, _, _, rfl, i.f_, T.cl_Folding, T.na_Folding_parents, ff_parents _ _ _, .inl ⟨rfl, _, SqL.of i.pa_⟩, _, rfl, f, _, dx, _, _, rfl, i.f_, T.cl_Folding, T.na_Folding_parents, ff_parents _ _ _, pa, _, rfl, .inl (SqL.of i.pa_), pa, _, _, rfl, rfl, i.pa_, ?_⟩
    have big : (10000000 : Nat) ≤ sizeLine := by decide
    refine ⟨by rw [nv_len]; omega, ?_⟩
    have e1 : nv F.ps ++ [V.int ((nv F.ps).length : Nat)] = nv (F.ps ++ [F.ps.length]) := by rw [nv_len]; simp [nv]
    rw [e1]
    have n1 : f ≠ pa := ne_of i.f_ i.pa_ (fun z => by cases z)
    refine ⟨_, rfl, f, _, dx, _, _, rfl, (by rw [upd_ne n1]; exact i.f_), T.cl_Folding, T.na_Folding_ends, ff_ends _ _ _, .inl ⟨rfl, _, SqL.of (by rw [upd_ne i.n1.symm]; exact i.ea_)⟩, ?_⟩
    intro d hd
    obtain ⟨z1, z2⟩ := none_of_upd hd
    refine ⟨ea, _, _, rfl, rfl, by rw [upd_ne (ne_of_none i.ea_ z1), upd_ne i.n1.symm]; exact i.ea_, by rw [rv_len, i.dl]; omega, ?_⟩
    have e2 : rv ds ++ [V.ref d] = rv (ds ++ [d]) := by simp [rv]
    rw [e2]
    have I2 := i.fresh' hd
    refine ⟨_, rfl, f, _, dx, _, _, rfl, I2.f_, T.cl_Folding, T.na_Folding_parents, ff_parents _ _ _, pa, _, rfl, .inl (SqL.of I2.pa_), _, _, rfl, rfl, ?_⟩
    have e3 : (((nv (newP F).ps).length : Nat) : Int) - 1 = (F.ps.length : Nat) := by rw [nv_len]; simp [newP]
    show Q (V.int (((nv (newP F).ps).length : Nat) - 1)) _
    rw [e3]
    exact k _ ⟨_, _, _, _, _, _, I2⟩
end
end W43
namespace W43
open PySem PySem.Spec PyProof.Rows L2 OW
open C8 (Cal Met Mak pe_c pe_mt pe_mt0 pe_mk)
open FG (Red net readOn Dl Fo rep Down endsOf putEnd putEdge newP putLoop fo0 InvF InvL Flat mu)
section
variable {P : Program} {w : World} {K : PySem.W.Frag} {mg : Str → Option Value} {base : Heap}
theorem lkw_ne {lk : Lk} {p : Nat} (h : ∀ k o, lk = some (k, o) → p ≠ k) (u : HO) : lkw lk p u = u := by
  unfold lkw
  split
  · rename_i k o
    rw [if_neg (h k o rfl)]
  · rfl
/-! ### put_end -/
def sp_Folding_put_end (K : PySem.W.Frag) : Sp := fun vs H Q _ => ∃ (f : Addr) (H0 : Hp) (F : Fo) (lk : Lk) (dx pa ea wa : Addr) (ds wr : List Addr) (p : Nat) (s : Int) (q : Nat), vs = [.ref f, .int (p : Nat), .int s, .int (q : Nat)] ∧
  FoIn (He.ga K "Folding") H0 H f dx pa ea wa ds wr F lk ∧ p < F.ps.length ∧ (∀ k o, lk = some (k, o) → p ≠ k) ∧ (endsOf F p).length < 10000000 ∧ F.ws.length < 10000000 ∧
  ∀ H' wr', FoIn (He.ga K "Folding") H0 H' f dx pa ea wa ds wr' (putEnd F p s q) lk → Q .non H'
theorem m_Folding_put_end (T : Tx K mg) : Met P w K mg base 1 (He.ga K "Folding") "put_end" (sp_Folding_put_end K) [] := by
  obtain ⟨fd, F⟩ := T.d_Folding_put_end
  refine metD T.cl_Folding T.mt_Folding_put_end F (fun _ _ _ _ _ _ us hl => match us, hl with | [_, _, _, _], _ => rfl) sc_Folding_put_end (fun vs H Q E h => ?_) (fun cdv A outer s H vs Q E hr h => ?_)
  · obtain ⟨f, H0, F, lk, dx, pa, ea, wa, ds, wr, p, s, q, rfl, _⟩ := h
    rfl
  · obtain ⟨f, H0, F, lk, dx, pa, ea, wa, ds, wr, p, z, q, rfl, i, hp, hl, b1, b2, k⟩ := h
    have hu := hu_of hr
    refine ⟨_, (pss_one (ps_if (pt_cmp (pc_din hu (pv 2) (pe_ix ix_list (pe_fld (pv 0) rfl) (pv 1) (fun _ _ => rfl)))) (pss_one (ps_expr (pe_bm PySem.F.plainAttrs_list PySem.F.slot_list_append PySem.F.type_list_append mt_append (pe_fld (pv 0) rfl) (pa_cons (pe_tup (pa_cons (pe_dget hu (pe_ix ix_list (pe_fld (pv 0) rfl) (pv 1) (fun _ _ => rfl)) (pv 2) (fun _ _ => rfl)) (pa_cons (pv 3) pa_nil))) pa_nil)))) (pss_one (ps_dput hu (pe_ix ix_list (pe_fld (pv 0) rfl) (pv 1) (fun _ _ => rfl)) (pv 2) (pv 3) rfl)))), ?_⟩
    obtain ⟨d, h1, h2, h3⟩ := i.dict hp
    rw [lkw_ne hl] at h3
    have big : (10000000 : Nat) ≤ sizeLine := by decide
    refine ⟨_, rfl, _, rfl, f, _, dx, _, _, rfl, i.f_, T.cl_Folding, T.na_Folding_ends, ff_ends _ _ _, _, rfl, ea, _, _, _, rfl, rfl, SqL.of i.ea_, atI_nat h2, d, _, rfl, DGet.k (k := Sum.inl z) h3, _, rfl, ?_⟩
    rw [valV_eK]
    cases e : (endsOf F p).lookup z with
    | some r =>
      refine iteT ?_
      have get : DGet H d (V.int z) (some (V.int (r : Nat))) := by
        have := DGet.k (k := Sum.inl z) h3
        rw [valV_eK, e] at this
        exact this
      refine ⟨_, rfl, f, _, dx, _, _, rfl, i.f_, T.cl_Folding, T.na_Folding_waiting, ff_waiting _ _ _, .inl ⟨rfl, _, SqL.of i.wa_⟩, ?_⟩
      refine ⟨_, rfl, f, _, dx, _, _, rfl, i.f_, T.cl_Folding, T.na_Folding_ends, ff_ends _ _ _, _, rfl, ea, _, _, _, rfl, rfl, SqL.of i.ea_, atI_nat h2, _, rfl, d, _, rfl, get, _, rfl, by show 2 ≤ sizeLine; decide, fun t ht => ?_⟩
      have i2 := i.kept (Same.new ht (o := .tup [.int (r : Nat), .int (q : Nat)]))
      refine ⟨wa, _, _, rfl, rfl, i2.wa_, by rw [rv_len, i.wl]; omega, ?_⟩
      have e2 : rv wr ++ [V.ref t] = rv (wr ++ [t]) := by simp [rv]
      rw [e2]
      refine k _ (wr ++ [t]) ?_
      unfold putEnd
      rw [e]
      refine i2.setWs (by simp [i.wl]) fun j a h => ?_
      rw [List.getElem?_append] at h
      rw [List.getElem?_append, ← i.wl]
      by_cases c : j < wr.length
      · rw [if_pos c] at h ⊢
        exact i2.w_ j a h
      · rw [if_neg c] at h ⊢
        have ej : j - wr.length = 0 := by
          obtain ⟨h1, _⟩ := List.getElem?_eq_some_iff.mp h
          simp at h1; omega
        rw [ej] at h ⊢
        simp at h
        subst h
        exact ⟨r, q, rfl, upd_same⟩
    | none =>
      refine iteF ?_
      refine ⟨_, rfl, _, rfl, f, _, dx, _, _, rfl, i.f_, T.cl_Folding, T.na_Folding_ends, ff_ends _ _ _, _, rfl, ea, _, _, _, rfl, rfl, SqL.of i.ea_, atI_nat h2, _, rfl, d, _, rfl, DPut.k (k := Sum.inl z) h3 (by rw [eK_len]; omega), ?_⟩
      rw [putK_eK e]
      refine k _ wr ?_
      unfold putEnd
      rw [e]
      exact i.setEs h1 hl
/-! ### put_edge -/
def sp_Folding_put_edge (K : PySem.W.Frag) : Sp := fun vs H Q _ => ∃ (f : Addr) (H0 : Hp) (F : Fo) (p : Nat) (s : Int) (q : Nat), vs = [.ref f, .int (p : Nat), .int s, .int (q : Nat)] ∧
  FoAt K H0 H f F ∧ p < F.ps.length ∧ q < F.ps.length ∧ (∀ x, (endsOf F x).length < 9000000) ∧ F.ws.length < 9000000 ∧ ∀ H', FoAt K H0 H' f (putEdge F p s q) → Q .non H'
theorem putEnd_len (F : Fo) (p : Nat) (s : Int) (q : Nat) : (∀ x, (endsOf (putEnd F p s q) x).length ≤ (endsOf F x).length + 1) ∧ (putEnd F p s q).ws.length ≤ F.ws.length + 1 := by
  unfold putEnd
  split
  · exact ⟨fun x => Nat.le_succ _, by simp⟩
  · refine ⟨fun x => ?_, by simp⟩
    by_cases hp : p < F.es.length
    · rw [FG.endsOf_set hp]
      by_cases c : x = p
      · subst c; simp
      · simp [c]
    · rw [List.set_eq_of_length_le (by omega)]; simp
theorem m_Folding_put_edge (T : Tx K mg) : Met P w K mg base 2 (He.ga K "Folding") "put_edge" (sp_Folding_put_edge K) [] := by
  have m_Folding_put_end := m_Folding_put_end (P := P) (w := w) (base := base) T
  obtain ⟨fd, F⟩ := T.d_Folding_put_edge
  refine metD T.cl_Folding T.mt_Folding_put_edge F (fun _ _ _ _ _ _ us hl => match us, hl with | [_, _, _, _], _ => rfl) sc_Folding_put_edge (fun vs H Q E h => ?_) (fun cdv A outer s H vs Q E hr h => ?_)
  · obtain ⟨f, H0, F, p, s, q, rfl, _⟩ := h
    rfl
  · obtain ⟨f, H0, F, p, z, q, rfl, ⟨dx, pa, ea, wa, ds, wr, i⟩, hp, hq, b1, b2, k⟩ := h
    refine ⟨_, (pss_cons (ps_expr (pe_mt m_Folding_put_end hr (by decide) (pv 0) (pa_cons (pv 1) (pa_cons (pv 2) (pa_cons (pv 3) pa_nil)))))
      (pss_one (ps_expr (pe_mt m_Folding_put_end hr (by decide) (pv 0) (pa_cons (pv 3) (pa_cons (pe_un un_neg (pv 2)) (pa_cons (pv 1) pa_nil))))))), ?_⟩
    have b3 := b1 p
    have b4 := b1 q
    obtain ⟨b5, b6⟩ := putEnd_len F p z q
    have b7 := b5 q
    refine ⟨_, rfl, f, dx, _, rfl, i.f_, ff_put_end _ _ _, _, rfl, _, rfl, _, rfl, f, H0, F, none, dx, pa, ea, wa, ds, wr, p, z, q, rfl, i, hp, fun _ _ h => (nomatch h), by omega, by omega, fun H1 wr1 i1 => ?_⟩
    refine ⟨_, rfl, f, dx, _, rfl, i1.f_, ff_put_end _ _ _, _, rfl, _, rfl, _, rfl, _, rfl, f, H0, _, none, dx, pa, ea, wa, ds, wr1, q, -z, p, rfl, i1, by rw [FG.putEnd_ps]; exact hq, fun _ _ h => (nomatch h), by omega, by omega, fun H2 wr2 i2 => ?_⟩
    exact k _ ⟨_, _, _, _, _, _, i2⟩
end
end W43
namespace W43
open PySem PySem.Spec PyProof.Rows L2 OW
open C8 (Cal Met Mak pe_c pe_mt pe_mt0 pe_mk)
open FG (Red net readOn Dl Fo rep Down endsOf putEnd putEdge newP putLoop fo0 InvF InvL Flat mu)
section
variable {P : Program} {w : World} {K : PySem.W.Frag} {mg : Str → Option Value} {base : Heap}
/-! ### put_loop -/
def sp_Folding_put_loop (K : PySem.W.Frag) : Sp := fun vs H Q _ => ∃ (f d : Addr) (H0 : Hp) (F : Fo) (x : List Int) (E : List FG.Edge), vs = [.ref f, .ref d] ∧
  FoAt K H0 H f F ∧ SqT K H0 d (iv x) ∧ InvF E F ∧ Flat F ∧ F.ps.length + x.length ≤ 8000000 ∧ mu F + 2 * x.length ≤ 8000000 ∧ ∀ H', FoAt K H0 H' f (putLoop F 0 x) → Q .non H'
theorem m_Folding_put_loop (T : Tx K mg) : Met P w K mg base 3 (He.ga K "Folding") "put_loop" (sp_Folding_put_loop K) [] := by
  have m_Folding_new := m_Folding_new (P := P) (w := w) (base := base) T
  have m_Folding_put_edge := m_Folding_put_edge (P := P) (w := w) (base := base) T
  obtain ⟨fd, F⟩ := T.d_Folding_put_loop
  refine metD T.cl_Folding T.mt_Folding_put_loop F (fun _ _ _ _ _ _ us hl => match us, hl with | [_, _], _ => rfl) sc_Folding_put_loop (fun vs H Q E h => ?_) (fun cdv A outer s H vs Q E hr h => ?_)
  · obtain ⟨f, d, H0, F, x, E, rfl, _⟩ := h
    rfl
  · obtain ⟨f, d, H0, F, x, E0, rfl, I, hd, iE, iF, b1, b2, k⟩ := h
    refine ⟨_, (pss_cons (ps_set (i := 2) sc_Folding_put_loop.nd rfl (Or.inl rfl) pe_int)
      (pss_one (ps_for PassesOwn.never rfl (pi_enumT rfl T.z_enumerate (pa_cons (pv 1) pa_nil)) (pg_tup rfl (pgs_cons (pg_name (i := 3) sc_Folding_put_loop.nd rfl (Or.inl rfl)) (pgs_cons (pg_name (i := 4) sc_Folding_put_loop.nd rfl (Or.inl rfl)) pgs_nil))) (pss_cons (ps_set (i := 5) sc_Folding_put_loop.nd rfl (Or.inl rfl) (pe_ifExp (pt_cmpR op_lt (pe_op op_add (pv 3) pe_int) (pe_callB call_len_seq rfl T.z_len (by decide +kernel) (pa_cons (pv 1) pa_nil)) (nomark _)) (pe_mt0 m_Folding_new hr (by decide) (pv 0)) pe_int))
      (pss_cons (ps_expr (pe_mt m_Folding_put_edge hr (by decide) (pv 0) (pa_cons (pv 2) (pa_cons (pv 4) (pa_cons (pv 5) pa_nil)))))
      (pss_one (ps_set (i := 2) sc_Folding_put_loop.nd rfl (Or.inl rfl) (pv 5)))))))), ?_⟩
    have s0 : Same H0 H := let ⟨_, _, _, _, _, _, i⟩ := I; i.same
    refine ⟨_, rfl, d, iv x, rfl, s0.tup hd, ?_⟩
    refine for_it (walk_enumT (xs := iv x)) (fun i σ H' => ∃ (G : Fo) (h : Nat) (E' : List FG.Edge) (v3 v4 v5 : Option V), σ = [some (.ref f), some (.ref d), some (.int (h : Nat)), v3, v4, v5] ∧ FoAt K H0 H' f G ∧ InvF E' G ∧ Flat G ∧ h < G.ps.length ∧
      putLoop G h (x.drop i) = putLoop F 0 x ∧ G.ps.length + (x.length - i) ≤ F.ps.length + x.length ∧ mu G + 2 * (x.length - i) ≤ mu F + 2 * x.length) ⟨F, 0, E0, _, _, _, rfl, I, iE, iF, iE.pos, rfl, by omega, by omega⟩ ?_ ?_ ?_
    · rintro i σ H' hi ⟨G, h, E', v3, v4, v5, rfl, ⟨_, _, _, _, _, _, J⟩, _⟩
      exact J.same.tup hd
    · rintro i v σ H' H'' hi ⟨G, h, E', v3, v4, v5, rfl, ⟨dx, pa, ea, wa, ds, wr, J⟩, iG, fG, hh, e1, e2, e3⟩ ⟨T', a, b, rfl, hT, rfl, ha, hb⟩
      rw [iv_len] at hi
      obtain ⟨z, hz, rfl⟩ := iv_at hb
      cases ha
      have J2 := J.kept (Same.new hT (o := .tup [.int (i : Nat), .int z]))
      refine ⟨T', _, rfl, SqT.of upd_same, rfl, ?_⟩
      have ed : x.drop i = z :: x.drop (i + 1) := by
        obtain ⟨h1, h2⟩ := List.getElem?_eq_some_iff.mp hz
        rw [List.drop_eq_getElem_cons h1, h2]
      have hd2 := J2.same.tup hd
      refine ⟨_, _, rfl, _, _, rfl, rfl, _, rfl, _, _, rfl, rfl, _, rfl, d, _, rfl, .inr hd2, _, _, rfl, rfl, _, rfl, ?_⟩
      refine ite2 (fun hlt => ?_) (fun hge => ?_)
      · have lt : i + 1 < x.length := by have := of_decide_eq_true hlt; rw [iv_len] at this; omega
        obtain ⟨t, r, er⟩ : ∃ t r, x.drop (i + 1) = t :: r := ⟨_, _, List.drop_eq_getElem_cons lt⟩
        refine ⟨_, rfl, f, dx, _, rfl, J2.f_, ff_new _ _ _, f, H0, G, rfl, ⟨_, _, _, _, _, _, J2⟩, by omega, fun H3 J3 => ?_⟩
        have iG2 := iG.fresh
        have fG2 := FG.flat_new fG
        have sz : (newP G).ps.length = G.ps.length + 1 := by simp [newP]
        have mG2 := FG.mu_new fG iG.len
        obtain ⟨dx3, pa3, ea3, wa3, ds3, wr3, J3⟩ := J3
        refine ⟨_, rfl, f, dx3, _, rfl, J3.f_, ff_put_edge _ _ _, _, rfl, _, rfl, _, rfl, f, H0, newP G, h, z, G.ps.length, rfl, ⟨_, _, _, _, _, _, J3⟩, by omega, by omega, fun y => ?_, ?_, fun H4 J4 => ?_⟩
        · have := FG.ends_flat fG2 iG2.len y; omega
        · have := FG.ws_mu (newP G); omega
        obtain ⟨i3, f3, l3⟩ := iG2.edge fG2 (p := h) (q := G.ps.length) (s := z) (by omega) (by omega)
        have m3 := FG.mu_edge fG2 iG2.len (p := h) (q := G.ps.length) (by omega) (by omega) z
        refine ⟨_, rfl, putEdge (newP G) h z G.ps.length, G.ps.length, _, _, _, _, rfl, J4, i3, f3, by omega, ?_, by omega, by omega⟩
        rw [← e1, ed, er]
        rfl
      · have ge : x.length ≤ i + 1 := by
          have this : ¬ ((i : Int) + 1 < ((iv x).length : Nat)) := fun y => hge (decide_eq_true y)
          rw [iv_len] at this
          omega
        have er : x.drop (i + 1) = [] := List.drop_eq_nil_of_le ge
        refine ⟨_, rfl, f, dx, _, rfl, J2.f_, ff_put_edge _ _ _, _, rfl, _, rfl, _, rfl, f, H0, G, h, z, 0, rfl, ⟨_, _, _, _, _, _, J2⟩, hh, iG.pos, fun y => ?_, ?_, fun H4 J4 => ?_⟩
        · have := FG.ends_flat fG iG.len y; omega
        · have := FG.ws_mu G; omega
        obtain ⟨i3, f3, l3⟩ := iG.edge fG (p := h) (q := 0) (s := z) hh iG.pos
        have m3 := FG.mu_edge fG iG.len (p := h) (q := 0) hh iG.pos z
        refine ⟨_, rfl, putEdge G h z 0, 0, _, _, _, _, rfl, J4, i3, f3, by have := iG.pos; omega, ?_, by omega, by omega⟩
        rw [← e1, ed, er]
        rfl
    · rintro σ H' ⟨G, h, E', v3, v4, v5, rfl, J, _, _, _, e1, _⟩
      rw [iv_len, List.drop_length] at e1
      have e2 : putLoop G h [] = G := rfl
      rw [e2] at e1
      rw [e1] at J
      exact k _ J
end
end W43
namespace W43
open PySem PySem.Spec PyProof.Rows L2 OW
open C8 (Cal Met Mak pe_c pe_mt pe_mt0 pe_mk)
open FG (Red net readOn Dl Fo rep Down endsOf putEnd putEdge newP putLoop fo0 InvF InvL Flat mu foldOne)
section
variable {P : Program} {w : World} {K : PySem.W.Frag} {mg : Str → Option Value} {base : Heap}
/-! ### fold -/
theorem FoIn.w_t {C : Addr} {H0 H : Hp} {f dx pa ea wa : Addr} {ds wr : List Addr} {F : Fo} {lk : Lk} {t : Addr} {xs : List V} {l : List V} (_ : FoIn C H0 (upd H wa (.lst l)) f dx pa ea wa ds wr F lk) (h : H t = some (.tup xs)) {zs : List V} (hw : H wa = some (.lst zs) := by assumption) : (upd H wa (.lst l)) t = some (.tup xs) := by
  rw [upd_ne (ne_of h hw (fun z => by cases z))]; exact h
def wsD (l : List (Nat × Nat)) : List PyData := l.map fun e => .tuple [.int (e.1 : Nat), .int (e.2 : Nat)]
theorem canLay_ws : ∀ l : List (Nat × Nat), PyData.canLayAll0 (wsD l) = true
  | [] => rfl
  | a :: l => by
    have := canLay_ws l
    simp [wsD, PyData.canLayAll0, PyData.canLay0] at this ⊢; exact this
theorem depth_ws : ∀ l : List (Nat × Nat), PyData.depthAll (wsD l) ≤ 2
  | [] => by simp [wsD, PyData.depthAll]
  | a :: l => by
    have := depth_ws l
    simp [wsD, PyData.depthAll, PyData.depth] at this ⊢; omega
theorem shaped_ws (l : List (Nat × Nat)) : SeqAt.shaped (.list (wsD l)) = true := by
  have h1 := canLay_ws l
  have h2 := depth_ws l
  simp [SeqAt.shaped, PyData.canLay0, PyData.depth, h1]
  omega
theorem eqv_ws (l : List (Nat × Nat)) : PyData.eqv (.list (wsD l)) (.list (wsD [])) = decide (l = []) := by
  cases l with
  | nil => rfl
  | cons a l => rfl
theorem dp_ws {H : Hp} : ∀ {wr : List Addr} {ws : List (Nat × Nat)}, wr.length = ws.length → (∀ (j : Nat) (t : Addr), wr[j]? = some t → ∃ a b, ws[j]? = some (a, b) ∧ H t = some (.tup [.int (a : Nat), .int (b : Nat)])) → DpAll K H (rv wr) (wsD ws)
  | [], [], _, _ => .nil
  | [], _ :: _, h, _ => (by simp at h)
  | _ :: _, [], h, _ => (by simp at h)
  | t :: wr, (a, b) :: ws, h, f => by
    obtain ⟨a', b', h1, h2⟩ := f 0 t rfl
    simp at h1
    obtain ⟨rfl, rfl⟩ := h1
    exact .cons (.tup (SqT.of h2) (.cons (.int _) (.cons (.int _) .nil))) (dp_ws (by simpa using h) fun j t h => f (j + 1) t h)
theorem pair_sorted {a b : Nat} {ns : List Int} (h : ns.Perm [(a : Int), (b : Int)]) (s : List.Pairwise (fun x y => x ≤ y) ns) : ns = [((min a b : Nat) : Int), ((max a b : Nat) : Int)] := by
  have hl := h.length_eq
  match ns, hl with
  | [x, y], _ =>
    have h1 : x ∈ [(a : Int), (b : Int)] := h.subset (by simp)
    have h2 : y ∈ [(a : Int), (b : Int)] := h.subset (by simp)
    have h3 : (a : Int) ∈ [x, y] := h.symm.subset (by simp)
    have h4 : (b : Int) ∈ [x, y] := h.symm.subset (by simp)
    have h5 : x ≤ y := by simpa using s
    simp at h1 h2 h3 h4
    simp only [List.cons.injEq, and_true]
    omega
def sp_Folding_fold (K : PySem.W.Frag) : Sp := fun vs H Q _ => ∃ (f : Addr) (H0 : Hp) (F : Fo) (E : List FG.Edge), vs = [.ref f] ∧ FoAt K H0 H f F ∧ InvF E F ∧ mu F ≤ 8000000 ∧
  ∀ H' G, FoAt K H0 H' f G → InvF E G → G.ws = [] → G.ps.length = F.ps.length → Q .non H'
theorem m_Folding_fold (T : Tx K mg) : Met P w K mg base 2 (He.ga K "Folding") "fold" (sp_Folding_fold K) [] := by
  have m_Folding_put_end := m_Folding_put_end (P := P) (w := w) (base := base) T
  have m_Folding_place_for := m_Folding_place_for (P := P) (w := w) (base := base) T
  obtain ⟨fd, F⟩ := T.d_Folding_fold
  refine metD T.cl_Folding T.mt_Folding_fold F (fun _ _ _ _ _ _ us hl => match us, hl with | [_], _ => rfl) sc_Folding_fold (fun vs H Q E h => ?_) (fun cdv A outer s H vs Q E hr h => ?_)
  · obtain ⟨f, H0, F, E, rfl, _⟩ := h
    rfl
  · obtain ⟨f, H0, F, E0, rfl, I, iE, bd, k⟩ := h
    refine ⟨_, (pss_one (ps_while PassesOwn.never (pt_cmpR (op_neD hr.units) (pe_fld (pv 0) rfl) (pe_lst pa_nil) (nomark _)) (pss_cons (ps_asg (pe_callB cr_sorted rfl T.z_sorted (by decide +kernel) (pa_cons (pe_lc (own := [("place", 5)]) rfl sc_Folding_fold.nd (pi_tup (pe_bm0 PySem.F.plainAttrs_list PySem.F.slot_list_pop PySem.F.type_list_pop mt_pop (pe_fld (pv 0) rfl))) (blkOk_by (own := [("place", 5)]) (N := ["self", "one", "other", "sign", "late", "place"]) (sc := defScope s_Folding_fold) (by decide +kernel)) (fun _ _ _ _ _ => (pg_name (i := 5) sc_Folding_fold.nd rfl (Or.inl rfl))) (fun _ _ _ _ _ => pts_nil) (fun _ _ _ _ _ => (pe_mt m_Folding_place_for hr (by decide) (pv 0) (pa_cons (pv 5) pa_nil)))) pa_nil)) (pg_unl rfl (pgs_cons (pg_name (i := 1) sc_Folding_fold.nd rfl (Or.inl rfl)) (pgs_cons (pg_name (i := 2) sc_Folding_fold.nd rfl (Or.inl rfl)) pgs_nil))))
      (pss_one (ps_if (pt_cmpR op_ne (pv 1) (pv 2) (nomark _)) (pss_cons (ps_asg (pv 1) (pg_sub (pe_fld (pv 0) rfl) (pv 2) set_list))
      (pss_one (ps_lock (ps_for PassesOwn.never rfl (pi_items (pe_ix ix_list (pe_fld (pv 0) rfl) (pv 2) (fun _ _ => rfl))) (pg_tup rfl (pgs_cons (pg_name (i := 3) sc_Folding_fold.nd rfl (Or.inl rfl)) (pgs_cons (pg_name (i := 4) sc_Folding_fold.nd rfl (Or.inl rfl)) pgs_nil))) (pss_one (ps_expr (pe_mt m_Folding_put_end hr (by decide) (pv 0) (pa_cons (pv 1) (pa_cons (pv 3) (pa_cons (pv 4) pa_nil)))))))))) pss_nil))))), ?_⟩
    refine ⟨fun m σ H' => ∃ (G : Fo) (v1 v2 v3 v4 v5 : Option V), σ = [some (.ref f), v1, v2, v3, v4, v5] ∧ FoAt K H0 H' f G ∧ InvF E0 G ∧ mu G = m ∧ m ≤ 8000000 ∧ G.ps.length = F.ps.length, ⟨_, F, _, _, _, _, _, rfl, I, iE, rfl, bd, rfl⟩, ?_⟩
    rintro m σ H' ⟨G, v1, v2, v3, v4, v5, rfl, ⟨dx, pa, ea, wa, ds, wr, i⟩, iG, rfl, bm, el⟩
    refine ⟨_, rfl, f, _, dx, _, _, rfl, i.f_, T.cl_Folding, T.na_Folding_waiting, ff_waiting _ _ _, Nat.zero_le _, fun v hv => ?_⟩
    have i2 := i.kept (Same.new hv (o := .lst []))
    refine ⟨_, _, .lst (SqL.of i2.wa_) (dp_ws i2.wl i2.w_), .lst (ds := wsD []) (SqL.of upd_same) .nil, shaped_ws _, shaped_ws _, ?_⟩
    rw [eqv_ws]
    refine ⟨_, rfl, ?_⟩
    refine ite2 (fun hne => ?_) (fun heq => ?_)
    · have ne := ne_yes hne
      obtain ⟨ws, ⟨a, b⟩, hw⟩ : ∃ ws c, G.ws = ws ++ [c] := ⟨_, _, (List.dropLast_concat_getLast ne).symm⟩
      have hwr : wr.length = ws.length + 1 := by rw [i2.wl, hw]; simp
      obtain ⟨wr0, t, et⟩ : ∃ wr0 t, wr = wr0 ++ [t] := ⟨_, _, (List.dropLast_concat_getLast (by intro z; rw [z] at hwr; simp at hwr)).symm⟩
      subst et
      have hl0 : wr0.length = ws.length := by simp at hwr; exact hwr
      obtain ⟨a', b', h1, h2⟩ := i2.w_ wr0.length t (by simp)
      rw [hw, hl0] at h1
      simp at h1
      obtain ⟨rfl, rfl⟩ := h1
      refine ⟨_, fun _ _ z => z, ?_⟩
      refine ⟨_, rfl, f, _, dx, _, _, rfl, i2.f_, T.cl_Folding, T.na_Folding_waiting, ff_waiting _ _ _, .inl ⟨rfl, _, SqL.of i2.wa_⟩, wa, _, .ref t, rfl, rfl, i2.wa_, by simp, ?_⟩
      have hwa := i2.wa_
      have e3 : (rv (wr0 ++ [t])).dropLast = rv wr0 := by simp [rv]
      rw [e3]
      have i3 := i2.setWs (wr' := wr0) (ws := ws) hl0 (fun j x h => by
        have hj : j < wr0.length := (List.getElem?_eq_some_iff.mp h).1
        obtain ⟨a', b', h1, h2⟩ := i2.w_ j x (by rw [List.getElem?_append, if_pos hj]; exact h)
        rw [hw, List.getElem?_append, if_pos (by omega)] at h1
        exact ⟨a', b', h1, h2⟩)
      have wab := iG.wlt a b (by rw [hw]; simp)
      refine ⟨t, rfl, ⟨_, SqT.of (i3.w_t h2)⟩, fun D hD => ?_⟩
      have i4 : ∀ l, FoIn (He.ga K "Folding") H0 (upd (upd (upd H' v (.lst [])) wa (.lst (rv wr0))) D (.lst l)) f dx pa ea wa ds wr0 { G with ws := ws } none := fun l => i3.kept (Same.new hD)
      refine lc_tup (xs := [.int (a : Nat), .int (b : Nat)]) (fun i H'' => H'' = upd (upd (upd H' v (.lst [])) wa (.lst (rv wr0))) D (.lst (nv (([a, b].take i).map (rep G.ps))))) rfl (fun j H'' _ e => ?_) (fun j x H'' hx e => ?_) (fun H'' e => ?_)
      · subst e
        exact (Same.new hD).tup (SqT.of (i3.w_t h2))
      · subst e
        have ex : ∃ c, [a, b][j]? = some c ∧ x = V.int (c : Nat) ∧ c < G.ps.length := by
          match j, hx with
          | 0, hx => simp at hx; exact ⟨a, rfl, hx.symm, wab.1⟩
          | 1, hx => simp at hx; exact ⟨b, rfl, hx.symm, wab.2⟩
        obtain ⟨c, hc, rfl, lc⟩ := ex
        refine ⟨rfl, ?_⟩
        refine ⟨_, rfl, f, dx, _, rfl, (i4 _).f_, ff_place_for _ _ _, _, rfl, f, H0, _, c, rfl, ⟨_, _, _, _, _, _, i4 _⟩, iG.down, lc, ?_⟩
        refine ⟨_, upd_same, ?_, ?_⟩
        · rw [nv_len, List.length_map]
          have : ([a, b].take j).length ≤ 2 := by simp; omega
          have : (3 : Nat) ≤ sizeLine := by decide
          omega
        · rw [upd_twice, List.take_add_one, hc]
          simp [nv]
      · subst e
        have e4 : nv (List.map (rep G.ps) (List.take [V.int (a : Nat), V.int (b : Nat)].length [a, b])) = List.map V.int [((rep G.ps a : Nat) : Int), ((rep G.ps b : Nat) : Int)] := rfl
        refine ⟨D, _, rfl, SqL.of (by rw [e4]; exact upd_same), by show 2 < 64; decide, fun ns' q pm so hq => ?_⟩
        have e5 := pair_sorted pm so
        subst e5
        generalize ho : min (rep G.ps a) (rep G.ps b) = one
        generalize hm : max (rep G.ps a) (rep G.ps b) = other
        refine ⟨q, _, rfl, SqL.of upd_same, rfl, _, _, rfl, _, _, rfl, rfl, ?_⟩
        have i5 := (i4 (nv (List.map (rep G.ps) (List.take [V.int (a : Nat), V.int (b : Nat)].length [a, b])))).kept (Same.new hq (o := .lst [.int (one : Nat), .int (other : Nat)]))
        refine ⟨_, rfl, _, rfl, rfl, _, rfl, ?_⟩
        refine ite2 (fun hne => ?_) (fun heq => ?_)
        · have ne : one ≠ other := fun z => ne_yes hne (by rw [z])
          obtain ⟨iM, r2, lo⟩ := FG.foldMid iG hw ho hm ne
          have mM := FG.foldMid_mu hw r2 lo ne
          refine ⟨_, rfl, _, rfl, f, _, dx, _, _, rfl, i5.f_, T.cl_Folding, T.na_Folding_parents, ff_parents _ _ _, _, rfl, pa, _, _, other, rfl, rfl, i5.pa_, ?_⟩
          have ix : ixN (nv G.ps).length ((other : Nat) : Int) = some other := by
            unfold ixN
            rw [if_pos (by omega), if_pos (by rw [nv_len]; omega)]; simp
          refine ⟨ix, ?_⟩
          have e7 : (nv G.ps).set other (V.int (one : Nat)) = nv (G.ps.set other one) := by simp only [nv, List.map_set]
          rw [e7]
          have i6 := i5.setPs (ps := G.ps.set other one) (by simp)
          have L := endsOf G other
          obtain ⟨d, h1, h2, h3⟩ := i6.dict (p := other) (by show other < (G.ps.set other one).length; simpa using lo)
          have h3' : _ = some (HO.dK (eK (endsOf G other))) := h3
          have h2' : (rv ds)[other]? = some (V.ref d) := h2
          refine ⟨d, _, h3', trivial, fun od => ?_⟩
          have i7 := i6.lock h1 (o := od)
          refine ⟨_, rfl, f, _, dx, _, _, rfl, i7.f_, T.cl_Folding, T.na_Folding_ends, ff_ends _ _ _, _, rfl, ea, _, _, _, rfl, rfl, SqL.of i7.ea_, atI_nat h2', d, od, eK (endsOf G other), rfl, upd_same, ?_⟩
          refine for_it walk_items (fun j σ H'' => ∃ (Fj : Fo) (wr' : List Addr) (v3 v4 : Option V), σ = [some (.ref f), some (.int (one : Nat)), some (.int (other : Nat)), v3, v4, v5] ∧ FoIn (He.ga K "Folding") H0 H'' f dx pa ea wa ds wr' Fj (some (other, od)) ∧
            InvL E0 Fj one ((endsOf G other).drop j) ∧ mu Fj + ((endsOf G other).length - j) < mu G ∧ Fj.ps.length = F.ps.length ∧ endsOf Fj other = endsOf G other) ⟨_, _, _, _, rfl, i7, iM, by omega, by show (G.ps.set other one).length = _; rw [List.length_set, el], rfl⟩ ?_ ?_ ?_
          · rintro j σ H'' _ ⟨Fj, wr', v3, v4, rfl, J, _, _, _, eo⟩
            have := J.d_ other d h1
            rw [eo] at this
            simpa [lkw] using this
          · rintro j x σ H'' H3 hj ⟨Fj, wr', v3, v4, rfl, J, jL, jm, jl, eo⟩ ⟨t', p1, p2, rfl, ht', rfl, hp1, hp2⟩
            rw [eK_len] at hj
            obtain ⟨z, r, hzr, rfl, rfl⟩ : ∃ z r, (endsOf G other)[j]? = some (z, r) ∧ p1 = V.int z ∧ p2 = V.int (r : Nat) := by
              have e8 : (eK (endsOf G other))[j]? = some (Sum.inl ((endsOf G other)[j]).1, V.int (((endsOf G other)[j]).2 : Nat)) := by
                unfold eK
                rw [List.getElem?_map, List.getElem?_eq_getElem hj]; rfl
              have q1 : Option.map (fun kv => kV kv.1) ((eK (endsOf G other))[j]?) = some p1 := hp1
              have q2 : Option.map Prod.snd ((eK (endsOf G other))[j]?) = some p2 := hp2
              rw [e8] at q1 q2
              exact ⟨_, _, List.getElem?_eq_getElem hj, (Option.some.inj q1).symm, (Option.some.inj q2).symm⟩
            have ed : (endsOf G other).drop j = (z, r) :: (endsOf G other).drop (j + 1) := by
              rw [List.drop_eq_getElem_cons hj]
              rw [List.getElem?_eq_getElem hj] at hzr
              rw [Option.some.inj hzr]
            have J2 := J.kept (Same.new ht' (o := .tup [.int z, .int (r : Nat)]))
            rw [ed] at jL
            have m1 := FG.ends_mu jL.one_.1 jL.one_.2
            have m2 := FG.ws_mu Fj
            have m3 := FG.mu_put (s := z) (q := r) jL.len jL.one_.1 jL.one_.2
            refine ⟨t', _, rfl, SqT.of upd_same, rfl, _, _, rfl, _, _, rfl, rfl, ?_⟩
            refine ⟨_, rfl, f, dx, _, rfl, J2.f_, ff_put_end _ _ _, _, rfl, _, rfl, _, rfl, f, H0, Fj, some (other, od), dx, pa, ea, wa, ds, wr', one, z, r, rfl, J2, jL.one_.2, fun k o h => ?_, by omega, by omega, fun H4 wr4 J4 => ?_⟩
            · cases h; exact ne
            · exact ⟨_, wr4, _, _, rfl, J4, jL.put, by omega, by rw [FG.putEnd_ps]; exact jl, by rw [FG.putEnd_other _ _ (Ne.symm ne)]; exact eo⟩
          · rintro σ H'' ⟨Fj, wr', v3, v4, rfl, J, jL, jm, jl, eo⟩
            rw [eK_len, List.drop_length] at jL
            obtain ⟨u1, u2⟩ := J.unlock h1
            rw [eo] at u1 u2
            refine ⟨u1, ?_⟩
            have := jL.base
            exact ⟨_, by omega, Fj, _, _, _, _, _, rfl, ⟨_, _, _, _, _, _, u2⟩, jL.base, rfl, by omega, jl⟩
        · have eq : one = other := vnat.mp (ne_no heq)
          have inv := FG.foldOne_inv iG hw
          have mun := FG.mu_foldOne iG hw
          have e6 : foldOne { G with ws := ws } a b = { G with ws := ws } := by
            unfold foldOne
            show (if min (rep G.ps a) (rep G.ps b) = max (rep G.ps a) (rep G.ps b) then _ else _) = _
            rw [if_pos (by omega)]
          rw [e6] at inv mun
          exact ⟨_, mun, _, _, _, _, _, _, rfl, ⟨_, _, _, _, _, _, i5⟩, inv, rfl, by omega, el⟩
    · have eq : G.ws = [] := ne_no heq
      exact k _ G ⟨_, _, _, _, _, _, i2⟩ iG eq el
end
end W43
namespace W43
open PySem PySem.Spec PyProof.Rows L2 OW
open C8 (Cal Met Mak pe_c pe_mt pe_mt0 pe_mk)
open FG (Red net readOn Dl Fo rep Down endsOf putEnd putEdge newP putLoop fo0 InvF InvL Flat mu foldOne Bfs extRow numD delta)
theorem extRow_append (δ : Dl) (P : Nat) : ∀ (a b : List Int) (line : List Nat), extRow δ P (a ++ b) line = extRow δ P b (extRow δ P a line)
  | [], b, line => rfl
  | s :: a, b, line => by
    simp only [List.cons_append, extRow]
    exact extRow_append δ P a b _
theorem numD_ext {δ : Dl} {sg : List Int} {k : Nat} {line : List Nat} (b : Bfs δ sg k line) (more : List Nat) {i : Nat} (hi : i < k) (s : Int) : numD δ sg (line ++ more) i s = numD δ sg line i s := by
  have hl : i < line.length := Nat.lt_of_lt_of_le hi b.le
  unfold numD
  by_cases hs : s ∈ sg
  · rw [if_pos hs, if_pos hs, List.getElem?_append, if_pos hl, List.getElem?_eq_getElem hl]
    cases e : δ line[i] s with
    | none => simp [e]
    | some Q =>
      have := b.closed i _ s Q hi (List.getElem?_eq_getElem hl) hs e
      simp [e, FG.idxOf_ext this]
  · rw [if_neg hs, if_neg hs]
def KnAt (kvs : List (Key × V)) (line : List Nat) : Prop := (∀ p : Nat, valV kvs (Sum.inl (p : Int)) = if p ∈ line then some (V.int (line.idxOf p : Nat)) else none) ∧ kvs.length ≤ line.length
def RwAt (kvs : List (Key × V)) (δ : Dl) (P : Nat) (sgs : List Int) (line : List Nat) : Prop := (∀ s : Int, valV kvs (Sum.inl s) = if s ∈ sgs then (δ P s).map (fun Q => V.int (line.idxOf Q : Nat)) else none) ∧ kvs.length ≤ sgs.length
theorem inl_nat {p q : Nat} : (Sum.inl (p : Int) : Key) = Sum.inl (q : Int) ↔ p = q := ⟨fun h => Int.ofNat_inj.mp (Sum.inl.inj h), fun h => by rw [h]⟩
theorem KnAt.put {kvs : List (Key × V)} {line : List Nat} {Q : Nat} (h : KnAt kvs line) (hQ : Q ∉ line) : KnAt (putK kvs (Sum.inl (Q : Int)) (V.int (line.length : Nat))) (line ++ [Q]) := by
  refine ⟨fun p => ?_, by have := length_putK kvs (Sum.inl (Q : Int)) (V.int (line.length : Nat)); have := h.2; rw [List.length_append]; simp; omega⟩
  rw [valV_put, h.1 p]
  by_cases e : p = Q
  · subst e
    rw [if_pos rfl, if_pos (by simp)]
    have : (line ++ [p]).idxOf p = line.length := by
      rw [List.idxOf_append, if_neg hQ]; simp
    rw [this]
  · rw [if_neg (fun z => e (inl_nat.mp z))]
    by_cases c : p ∈ line
    · rw [if_pos c, if_pos (by simp [c]), FG.idxOf_ext c]
    · rw [if_neg c, if_neg (by simp [c, e])]
theorem RwAt.skip {kvs : List (Key × V)} {δ : Dl} {P : Nat} {sgs : List Int} {line : List Nat} {s : Int} (h : RwAt kvs δ P sgs line) (e : δ P s = none) : RwAt kvs δ P (sgs ++ [s]) line := by
  refine ⟨fun s' => ?_, by have := h.2; simp; omega⟩
  rw [h.1 s']
  by_cases c : s' ∈ sgs
  · rw [if_pos c, if_pos (by simp [c])]
  · by_cases z : s' = s
    · subst z
      rw [if_neg c, if_pos (by simp), e]; rfl
    · rw [if_neg c, if_neg (by simp [c, z])]
theorem RwAt.put {kvs : List (Key × V)} {δ : Dl} {P : Nat} {sgs : List Int} {line : List Nat} {s : Int} {Q : Nat} (more : List Nat) (h : RwAt kvs δ P sgs line) (e : δ P s = some Q)
    (hin : ∀ s' ∈ sgs, ∀ Q', δ P s' = some Q' → Q' ∈ line) (hl : kvs.length ≤ sgs.length) : RwAt (putK kvs (Sum.inl s) (V.int ((line ++ more).idxOf Q : Nat))) δ P (sgs ++ [s]) (line ++ more) := by
  refine ⟨fun s' => ?_, by have := length_putK kvs (Sum.inl s) (V.int ((line ++ more).idxOf Q : Nat)); rw [List.length_append]; simp; omega⟩
  rw [valV_put, h.1 s']
  by_cases z : s' = s
  · subst z
    rw [if_pos rfl, if_pos (by simp), e]; rfl
  · rw [if_neg (fun y => z (Sum.inl.inj y))]
    by_cases c : s' ∈ sgs
    · rw [if_pos c, if_pos (by simp [c])]
      cases e2 : δ P s' with
      | none => rfl
      | some Q' => rw [Option.map_some, Option.map_some, FG.idxOf_ext (hin s' c Q' e2)]
    · rw [if_neg c, if_neg (by simp [c, z])]
section
variable {P : Program} {w : World} {K : PySem.W.Frag} {mg : Str → Option Value} {base : Heap}
theorem sqt_upd {H : Hp} {a r : Addr} {xs : List V} {o u : HO} (h : SqT K H r xs) (ha : H a = some o) (n1 : o ≠ .tup xs) (n2 : ∀ b, o ≠ .frz b (.tup xs)) : SqT K (upd H a u) r xs := by
  rcases h with (h | ⟨b, h⟩) | h
  · refine .inl (.inl ?_)
    rw [upd_ne (ne_of h ha (Ne.symm n1))]; exact h
  · refine .inl (.inr ⟨b, ?_⟩)
    rw [upd_ne (ne_of h ha (Ne.symm (n2 b)))]; exact h
  · exact .inr h
/-- a row of pairs -/
def RoAt (K : PySem.W.Frag) (H : Hp) (acts : Nat) (r : Addr) (g : Int → Option Nat) : Prop := ∃ prs : List Addr, SqT K H r (rv prs) ∧ prs.length = acts ∧ ∀ (j : Nat) (p : Addr), prs[j]? = some p → SqT K H p [ov (g ((j : Int) + 1)), ov (g (-((j : Int) + 1)))]
theorem RoAt.go {H H' : Hp} {acts : Nat} {r : Addr} {g : Int → Option Nat} (h : RoAt K H acts r g) (s : Same H H') : RoAt K H' acts r g := by
  obtain ⟨prs, h1, h2, h3⟩ := h
  exact ⟨prs, s.tup h1, h2, fun j p hp => s.tup (h3 j p hp)⟩
theorem RoAt.upd {H : Hp} {acts : Nat} {r a : Addr} {g : Int → Option Nat} {o u : HO} (h : RoAt K H acts r g) (ha : H a = some o) (n1 : ∀ xs, o ≠ .tup xs) (n2 : ∀ b xs, o ≠ .frz b (.tup xs)) : RoAt K (upd H a u) acts r g := by
  obtain ⟨prs, h1, h2, h3⟩ := h
  exact ⟨prs, sqt_upd h1 ha (n1 _) (fun b => n2 b _), h2, fun j p hp => sqt_upd (h3 j p hp) ha (n1 _) (fun b => n2 b _)⟩
/-! ### numbered -/
/-- within it: the places come to, their numbers, the rows found -/
structure NuIn (K : PySem.W.Frag) (H0 H : Hp) (acts : Nat) (δ : Dl) (li kn fo : Addr) (line : List Nat) (kvs : List (Key × V)) (rows : List Addr) : Prop where
  same : Same H0 H
  nli : H0 li = none
  nkn : H0 kn = none
  nfo : H0 fo = none
  ne : li ≠ fo
  li_ : H li = some (.lst (nv line))
  kn_ : H kn = some (.dK kvs)
  fo_ : H fo = some (.lst (rv rows))
  kn : KnAt kvs line
  ro : ∀ (k : Nat) (r : Addr), rows[k]? = some r → RoAt K H acts r (numD δ (FG.signs acts) line k)
theorem NuIn.go {H0 H H' : Hp} {acts : Nat} {δ : Dl} {li kn fo : Addr} {line : List Nat} {kvs : List (Key × V)} {rows : List Addr} (h : NuIn K H0 H acts δ li kn fo line kvs rows) (s : Same H H') : NuIn K H0 H' acts δ li kn fo line kvs rows :=
  ⟨h.same.trans s, h.nli, h.nkn, h.nfo, h.ne, s _ _ h.li_, s _ _ h.kn_, s _ _ h.fo_, h.kn, fun k r e => (h.ro k r e).go s⟩
/-- a place is come to -/
theorem NuIn.come {H0 H : Hp} {acts : Nat} {δ : Dl} {li kn fo : Addr} {line : List Nat} {kvs : List (Key × V)} {rows : List Addr} {Q : Nat} (h : NuIn K H0 H acts δ li kn fo line kvs rows) (hQ : Q ∉ line)
    (b : ∀ k, k < rows.length → ∀ s, numD δ (FG.signs acts) (line ++ [Q]) k s = numD δ (FG.signs acts) line k s) :
    NuIn K H0 (upd (upd H kn (.dK (putK kvs (Sum.inl (Q : Int)) (V.int (line.length : Nat))))) li (.lst (nv (line ++ [Q])))) acts δ li kn fo (line ++ [Q]) (putK kvs (Sum.inl (Q : Int)) (V.int (line.length : Nat))) rows := by
  have n1 : kn ≠ li := ne_of h.kn_ h.li_ (fun z => by cases z)
  have n2 : kn ≠ fo := ne_of h.kn_ h.fo_ (fun z => by cases z)
  refine ⟨same_upd (same_upd h.same h.nkn) h.nli, h.nli, h.nkn, h.nfo, h.ne, upd_same, by rw [upd_ne n1, upd_same], by rw [upd_ne h.ne.symm, upd_ne n2.symm]; exact h.fo_, h.kn.put hQ, fun k r e => ?_⟩
  have hk := (List.getElem?_eq_some_iff.mp e).1
  have e2 : numD δ (FG.signs acts) (line ++ [Q]) k = numD δ (FG.signs acts) line k := funext (b k hk)
  rw [e2]
  refine ((h.ro k r e).upd h.kn_ (fun _ z => by cases z) (fun _ _ z => by cases z)).upd (o := .lst (nv line)) (by rw [upd_ne n1.symm]; exact h.li_) (fun _ z => by cases z) (fun _ _ z => by cases z)
/-- a thing beside it changes -/
theorem NuIn.side {H0 H : Hp} {acts : Nat} {δ : Dl} {li kn fo a : Addr} {line : List Nat} {kvs : List (Key × V)} {rows : List Addr} {o u : HO} (h : NuIn K H0 H acts δ li kn fo line kvs rows) (ha : H a = some o) (n1 : ∀ xs, o ≠ .tup xs) (n2 : ∀ b xs, o ≠ .frz b (.tup xs)) (n : H0 a = none)
    (e1 : a ≠ li) (e2 : a ≠ kn) (e3 : a ≠ fo) : NuIn K H0 (upd H a u) acts δ li kn fo line kvs rows :=
  ⟨same_upd h.same n, h.nli, h.nkn, h.nfo, h.ne, by rw [upd_ne e1.symm]; exact h.li_, by rw [upd_ne e2.symm]; exact h.kn_, by rw [upd_ne e3.symm]; exact h.fo_, h.kn, fun k r e => (h.ro k r e).upd ha n1 n2⟩
/-- a row is found -/
theorem NuIn.row {H0 H : Hp} {acts : Nat} {δ : Dl} {li kn fo r : Addr} {line : List Nat} {kvs : List (Key × V)} {rows : List Addr} (h : NuIn K H0 H acts δ li kn fo line kvs rows) (hr : RoAt K H acts r (numD δ (FG.signs acts) line rows.length)) :
    NuIn K H0 (L2.upd H fo (.lst (rv (rows ++ [r])))) acts δ li kn fo line kvs (rows ++ [r]) := by
  have n2 : kn ≠ fo := ne_of h.kn_ h.fo_ (fun z => by cases z)
  refine ⟨same_upd h.same h.nfo, h.nli, h.nkn, h.nfo, h.ne, by rw [upd_ne h.ne]; exact h.li_, by rw [upd_ne n2]; exact h.kn_, upd_same, h.kn, fun k x e => ?_⟩
  refine RoAt.upd ?_ h.fo_ (fun _ z => by cases z) (fun _ _ z => by cases z)
  rw [List.getElem?_append] at e
  by_cases c : k < rows.length
  · rw [if_pos c] at e
    exact h.ro k x e
  · rw [if_neg c] at e
    have ek : k - rows.length = 0 := by
      obtain ⟨h1, _⟩ := List.getElem?_eq_some_iff.mp e
      simp at h1; omega
    rw [ek] at e
    simp at e
    subst e
    have : k = rows.length := by omega
    rw [this]; exact hr
def sp_Folding_numbered (K : PySem.W.Frag) : Sp := fun vs H Q _ => ∃ (f : Addr) (H0 : Hp) (F : Fo) (E : List FG.Edge) (acts : Nat), vs = [.ref f, .int (acts : Nat)] ∧ FoAt K H0 H f F ∧ InvF E F ∧ acts ≤ 1000 ∧ F.ps.length ≤ 8000000 ∧
  ∀ a H' line, Same H H' → Bfs (delta F) (FG.signs acts) line.length line → line.length ≤ F.ps.length → GrAt K H' a acts line.length (numD (delta F) (FG.signs acts) line) → Q (.ref a) H'
theorem m_Folding_numbered (T : Tx K mg) : Met P w K mg base 2 (He.ga K "Folding") "numbered" (sp_Folding_numbered K) [] := by
  have c_act_signs := c_act_signs (P := P) (w := w) (base := base) T
  have m_Folding_place_for := m_Folding_place_for (P := P) (w := w) (base := base) T
  obtain ⟨fd, F⟩ := T.d_Folding_numbered
  refine metD T.cl_Folding T.mt_Folding_numbered F (fun _ _ _ _ _ _ us hl => match us, hl with | [_, _], _ => rfl) sc_Folding_numbered (fun vs H Q E h => ?_) (fun cdv A outer s H vs Q E hr h => ?_)
  · obtain ⟨f, H0, F, E, acts, rfl, _⟩ := h
    rfl
  · obtain ⟨f, H0, F, E0, acts, rfl, ⟨dx, pa, ea, wa, ds, wr, i⟩, iE, ba, bl, k⟩ := h
    have hu := hu_of hr
    refine ⟨_, (pss_cons (ps_par3 (i := 2) (j := 3) (l := 4) rfl sc_Folding_numbered.nd rfl rfl rfl (by decide) (by decide) (by decide) rfl rfl rfl (pa_cons (pe_lst (pa_cons pe_int pa_nil)) (pa_cons (pe_disp (pps_cons pe_int pe_int pps_nil) (by rfl) (by rfl) (fun z => by cases z) (by decide)) (pa_cons (pe_lst pa_nil) pa_nil))) (by rfl))
      (pss_cons (ps_while PassesOwn.never (pt_cmpR op_lt (pe_callB call_len_seq rfl T.z_len (by decide +kernel) (pa_cons (pv 4) pa_nil)) (pe_callB call_len_seq rfl T.z_len (by decide +kernel) (pa_cons (pv 2) pa_nil)) (nomark _)) (pss_cons (ps_set (i := 5) sc_Folding_numbered.nd rfl (Or.inr rfl) pe_dnewK)
      (pss_cons (ps_for PassesOwn.never rfl (pi_list (pe_c c_act_signs hr (by decide) rfl (pa_cons (pv 1) pa_nil))) (pg_name (i := 6) sc_Folding_numbered.nd rfl (Or.inl rfl)) (pss_cons (ps_set (i := 7) sc_Folding_numbered.nd rfl (Or.inl rfl) (pe_dget1 hu (pe_ix ix_list (pe_fld (pv 0) rfl) (pe_ix ix_list (pv 2) (pe_callB call_len_seq rfl T.z_len (by decide +kernel) (pa_cons (pv 4) pa_nil)) (fun _ _ => rfl)) (fun _ _ => rfl)) (pv 6) ⟨by rfl, by rfl, by rfl, by rfl⟩))
      (pss_one (ps_if (pt_cmpR op_notN (pv 7) pe_non (nomark _)) (pss_cons (ps_set (i := 7) sc_Folding_numbered.nd rfl (Or.inl rfl) (pe_mt m_Folding_place_for hr (by decide) (pv 0) (pa_cons (pv 7) pa_nil)))
      (pss_cons (ps_if (pt_cmp (pc_dnotin hu (pv 7) (pv 3))) (pss_cons (ps_dput hu (pv 3) (pv 7) (pe_callB call_len_seq rfl T.z_len (by decide +kernel) (pa_cons (pv 2) pa_nil)) rfl)
      (pss_one (ps_expr (pe_bm PySem.F.plainAttrs_list PySem.F.slot_list_append PySem.F.type_list_append mt_append (pv 2) (pa_cons (pv 7) pa_nil))))) pss_nil)
      (pss_one (ps_dput hu (pv 5) (pv 6) (pe_dget hu (pv 3) (pv 7) (fun _ _ => rfl)) rfl)))) pss_nil))))
      (pss_one (ps_expr (pe_bm PySem.F.plainAttrs_list PySem.F.slot_list_append PySem.F.type_list_append mt_append (pv 4) (pa_cons (pe_callTy call_tupleR rfl T.z_tuple (by decide +kernel) (pa_cons (pe_lc (own := [("act", 8)]) rfl sc_Folding_numbered.nd (pi_range2 rfl T.z_range (pa_cons pe_int (pa_cons (pe_op op_add (pv 1) pe_int) pa_nil))) (blkOk_by (own := [("act", 8)]) (N := ["self", "acts", "line", "known", "found", "row", "sign", "late", "act"]) (sc := defScope s_Folding_numbered) (by decide +kernel)) (fun _ _ _ _ _ => (pg_name (i := 8) sc_Folding_numbered.nd rfl (Or.inl rfl))) (fun _ _ _ _ _ => pts_nil) (fun _ _ _ _ _ => (pe_tup (pa_cons (pe_dget1 hu (pv 5) (pv 8) ⟨by rfl, by rfl, by rfl, by rfl⟩) (pa_cons (pe_dget1 hu (pv 5) (pe_un un_neg (pv 8)) ⟨by rfl, by rfl, by rfl, by rfl⟩) pa_nil))))) pa_nil)) pa_nil)))))))
      (pss_one (ps_ret (pe_callTy call_tupleR rfl T.z_tuple (by decide +kernel) (pa_cons (pv 4) pa_nil)))))), ?_⟩
    refine ⟨by show 1 ≤ sizeLine; decide, fun li hli => ?_⟩
    intro kn hkn
    refine ⟨upd_same, [(Sum.inl 0, V.int 0)], rfl, by decide, ?_⟩
    refine ⟨Nat.zero_le _, fun fo hfo => ?_⟩
    refine ⟨_, _, _, rfl, ?_⟩
    obtain ⟨y1, y2⟩ := none_of_upd hkn
    obtain ⟨x1, x2⟩ := none_of_upd hfo
    obtain ⟨x3, x4⟩ := none_of_upd x1
    obtain ⟨x5, x6⟩ := none_of_upd x3
    have start : NuIn K H (upd (upd (upd (upd H li (.lst [.int 0])) kn (.dK [])) kn (.dK (mergeK [] [(Sum.inl 0, V.int 0)]))) fo (.lst [])) acts (delta F) li kn fo [0] (mergeK [] [(Sum.inl 0, V.int 0)]) [] := by
      refine ⟨same_upd (same_upd (same_upd (Same.new hli) y1) y1) x5, hli, y1, x5, x6.symm, ?_, by rw [upd_ne x2.symm, upd_same], upd_same, ⟨fun p => ?_, by decide⟩, fun k r e => by simp at e⟩
      · rw [upd_ne x6.symm, upd_ne y2.symm, upd_ne y2.symm, upd_same]; rfl
      · have e0 : mergeK [] [((Sum.inl 0 : Key), V.int 0)] = [(Sum.inl 0, V.int 0)] := rfl
        rw [e0]
        by_cases c : p = 0
        · subst c; rfl
        · rw [valV_neg (by intro z; exact c (inl_nat.mp z).symm), valV_nil, if_neg (by simp [c])]
    have rho0 : ∀ p ∈ [0], F.ps.getD p p = p ∧ p < F.ps.length := fun p hp => by
      simp at hp; subst hp
      exact ⟨Nat.le_zero.mp (iE.down 0), iE.pos⟩
    refine ⟨fun m σ H' => ∃ (line : List Nat) (kvs : List (Key × V)) (rows : List Addr) (v5 v6 v7 v8 : Option V), σ = [some (.ref f), some (.int (acts : Nat)), some (.ref li), some (.ref kn), some (.ref fo), v5, v6, v7, v8] ∧ NuIn K H H' acts (delta F) li kn fo line kvs rows ∧
      Bfs (delta F) (FG.signs acts) rows.length line ∧ (∀ p ∈ line, F.ps.getD p p = p ∧ p < F.ps.length) ∧ m + rows.length = F.ps.length, ⟨F.ps.length, [0], _, [], _, _, _, _, rfl, start, .start, rho0, rfl⟩, ?_⟩
    rintro m σ H' ⟨line, kvs, rows, v5, v6, v7, v8, rfl, N, B, rho, hm⟩
    have lle : line.length ≤ F.ps.length := FG.nodup_le _ _ B.nodup fun p hp => (rho p hp).2
    refine ⟨_, rfl, fo, _, rfl, .inl (SqL.of N.fo_), _, rfl, li, _, rfl, .inl (SqL.of N.li_), _, _, rfl, rfl, _, rfl, ?_⟩
    refine ite2 (fun hlt => ?_) (fun hge => ?_)
    · have lt : rows.length < line.length := by have := of_decide_eq_true hlt; rw [rv_len, nv_len] at this; omega
      refine ⟨_, fun _ _ z => z, ?_⟩
      intro ro hro
      obtain ⟨Pl, hP⟩ : ∃ Pl, line[rows.length]? = some Pl := ⟨_, List.getElem?_eq_getElem lt⟩
      have N1 := N.go (Same.new hro (o := .dK []))
      refine ⟨_, rfl, acts, rfl, ba, fun sl H3 s3 nsl hsl => ?_⟩
      have N2 := N1.go s3
      have h3ro : H3 ro = some (.dK []) := s3 _ _ upd_same
      obtain ⟨w1, w2⟩ := none_of_upd nsl
      refine ⟨sl, rfl, ⟨_, SqL.of hsl⟩, ?_⟩
      have nro : H ro = none := N.same.free hro
      have nsl0 : H sl = none := N.same.free w1
      have d1 : ro ≠ kn := (ne_of_none N.kn_ hro).symm
      have d2 : sl ≠ li := (ne_of_none N.li_ w1).symm
      have d3 : sl ≠ fo := (ne_of_none N.fo_ w1).symm
      refine for_list (K := K) (a := sl) (xs := iv (FG.signs acts)) (fun i σ H'' => ∃ (line' : List Nat) (kvs' rkv : List (Key × V)) (v6 v7 v8 : Option V), σ = [some (.ref f), some (.int (acts : Nat)), some (.ref li), some (.ref kn), some (.ref fo), some (.ref ro), v6, v7, v8] ∧
        NuIn K H H'' acts (delta F) li kn fo line' kvs' rows ∧ H'' sl = some (.lst (iv (FG.signs acts))) ∧ H'' ro = some (.dK rkv) ∧ RwAt rkv (delta F) Pl ((FG.signs acts).take i) line' ∧ line' = extRow (delta F) Pl ((FG.signs acts).take i) line ∧
        (∀ p ∈ line', F.ps.getD p p = p ∧ p < F.ps.length)) ⟨line, kvs, [], _, _, _, rfl, N2, hsl, h3ro, ⟨fun s => by simp [valV_nil], Nat.zero_le _⟩, rfl, rho⟩ ?_ ?_ ?_
      · rintro j σ H'' _ ⟨line', kvs', rkv, v6, v7, v8, rfl, N3, h1, _⟩
        exact SqL.of h1
      · rintro j x σ H'' hx ⟨line', kvs', rkv, v6, v7, v8, rfl, N3, h1, h2, h3, h4, h5⟩
        obtain ⟨z, hz, rfl⟩ := iv_at hx
        obtain ⟨more, em⟩ := FG.extRow_app (delta F) Pl ((FG.signs acts).take j) line
        have hPl' : line'[rows.length]? = some Pl := by
          rw [h4, em, List.getElem?_append, if_pos lt]; exact hP
        obtain ⟨r1, r2⟩ := h5 Pl (List.mem_of_getElem? hPl')
        have I3 := i.kept N3.same
        obtain ⟨d, g1, g2, g3⟩ := I3.dict r2
        have g3 : H'' d = some (.dK (eK (endsOf F Pl))) := g3
        have et : (FG.signs acts).take (j + 1) = (FG.signs acts).take j ++ [z] := by rw [List.take_add_one, hz]; rfl
        have ext : extRow (delta F) Pl ((FG.signs acts).take (j + 1)) line = extRow (delta F) Pl [z] line' := by rw [et, extRow_append, ← h4]
        refine ⟨_, rfl, f, _, dx, _, _, rfl, I3.f_, T.cl_Folding, T.na_Folding_ends, ff_ends _ _ _, _, rfl, _, rfl, fo, _, rfl, .inl (SqL.of N3.fo_), li, _, _, _, rfl, rfl, SqL.of N3.li_, at_of (j := rows.length) (by rw [rv_len]) (nv_at hPl'), ea, _, _, _, rfl, rfl, SqL.of I3.ea_, atI_nat g2, d, rfl, .inl ⟨_, .inl g3⟩, _, rfl, _, DGet.k (k := Sum.inl z) g3, ?_⟩
        rw [valV_eK]
        cases e : (endsOf F Pl).lookup z with
        | none =>
          have dn : delta F Pl z = none := by unfold FG.delta; rw [e]; rfl
          refine ⟨_, rfl, rfl, _, rfl, ?_⟩
          refine iteF ?_
          refine ⟨line', kvs', rkv, _, _, _, rfl, N3, h1, h2, ?_, ?_, h5⟩
          · rw [et]; exact h3.skip dn
          · rw [ext]; simp [extRow, dn]
        | some q =>
          have dn : delta F Pl z = some (rep F.ps q) := by unfold FG.delta; rw [e]; rfl
          obtain ⟨pp, eE, _⟩ := iE.j2 Pl z q r1 (FG.lookup_mem e)
          have hq := (iE.lt _ _ _ eE).2
          have rq := FG.rep_root iE.down q
          have lq := FG.rep_le iE.down q
          refine ⟨_, rfl, rfl, _, rfl, ?_⟩
          refine iteT ?_
          refine ⟨_, rfl, f, dx, _, rfl, I3.f_, ff_place_for _ _ _, _, rfl, f, H0, F, q, rfl, ⟨_, _, _, _, _, _, I3⟩, iE.down, hq, ?_⟩
          generalize rep F.ps q = Qn at *
          refine ⟨_, rfl, _, rfl, kn, _, rfl, DGet.k (k := Sum.inl (Qn : Int)) N3.kn_, _, rfl, ?_⟩
          have big : (8000000 : Nat) < sizeLine := by decide
          have lj : ((FG.signs acts).take j).length ≤ 2000 := by rw [List.length_take, signs_len]; omega
          have hin : ∀ s' ∈ (FG.signs acts).take j, ∀ Q', delta F Pl s' = some Q' → Q' ∈ line' := fun s' hs' Q' hd => by
            rw [h4]; exact FG.extRow_mem _ _ _ _ _ _ hs' hd
          have rkl := h3.2
          have d4 : ro ≠ li := ne_of h2 N3.li_ (fun z => by cases z)
          have d5 : ro ≠ fo := ne_of h2 N3.fo_ (fun z => by cases z)
          have d6 : sl ≠ ro := ne_of h1 h2 (fun z => by cases z)
          have d7 : sl ≠ kn := ne_of h1 N3.kn_ (fun z => by cases z)
          rw [N3.kn.1]
          by_cases c : Qn ∈ line'
          · rw [if_pos c]
            refine iteF ?_
            have get : DGet H'' kn (V.int (Qn : Nat)) (some (V.int (line'.idxOf Qn : Nat))) := by
              have := DGet.k (k := Sum.inl (Qn : Int)) N3.kn_
              rw [N3.kn.1, if_pos c] at this
              exact this
            refine ⟨_, rfl, _, rfl, kn, _, rfl, get, _, rfl, _, rfl, ro, _, rfl, DPut.k (k := Sum.inl z) h2 (by omega), ?_⟩
            have N4 := N3.side (u := .dK (putK rkv (Sum.inl z) (V.int (line'.idxOf Qn : Nat)))) h2 (fun _ z => by cases z) (fun _ _ z => by cases z) nro d4 d1 d5
            refine ⟨line', kvs', _, _, _, _, rfl, N4, by rw [upd_ne d6]; exact h1, upd_same, ?_, ?_, h5⟩
            · rw [et]
              have := h3.put [] dn hin h3.2
              rw [List.append_nil] at this
              exact this
            · rw [ext]; simp [extRow, dn, c]
          · rw [if_neg c]
            refine iteT ?_
            have N4 := N3.come c (fun k hk s => by
              rw [h4, em, List.append_assoc, numD_ext B _ hk, numD_ext B _ hk])
            have h2' : (upd (upd H'' kn (.dK (putK kvs' (Sum.inl (Qn : Int)) (V.int (line'.length : Nat))))) li (.lst (nv (line' ++ [Qn])))) ro = some (.dK rkv) := by rw [upd_ne d4, upd_ne d1]; exact h2
            have h1' : (upd (upd H'' kn (.dK (putK kvs' (Sum.inl (Qn : Int)) (V.int (line'.length : Nat))))) li (.lst (nv (line' ++ [Qn])))) sl = some (.lst (iv (FG.signs acts))) := by rw [upd_ne d2, upd_ne d7]; exact h1
            have n8 : li ≠ kn := ne_of N3.li_ N3.kn_ (fun z => by cases z)
            have ll : line'.length ≤ F.ps.length := by
              have bn : line'.Nodup := by rw [h4]; exact FG.extRow_nodup _ _ _ _ B.nodup
              exact FG.nodup_le _ _ bn fun p hp => (h5 p hp).2
            have kl := N3.kn.2
            refine ⟨_, rfl, li, _, rfl, .inl (SqL.of N3.li_), _, rfl, _, rfl, kn, _, rfl, DPut.k (k := Sum.inl (Qn : Int)) N3.kn_ (by omega), ?_⟩
            rw [nv_len]
            refine ⟨_, rfl, .inl ⟨rfl, _, SqL.of (by rw [upd_ne n8]; exact N3.li_)⟩, _, rfl, li, _, _, rfl, rfl, by rw [upd_ne n8]; exact N3.li_, by rw [nv_len]; omega, ?_⟩
            have e9 : nv line' ++ [V.int (Qn : Nat)] = nv (line' ++ [Qn]) := by simp [nv]
            rw [e9]
            have get : DGet (upd (upd H'' kn (.dK (putK kvs' (Sum.inl (Qn : Int)) (V.int (line'.length : Nat))))) li (.lst (nv (line' ++ [Qn])))) kn (V.int (Qn : Nat)) (some (V.int ((line' ++ [Qn]).idxOf Qn : Nat))) := by
              have := DGet.k (k := Sum.inl (Qn : Int)) N4.kn_
              rw [N4.kn.1, if_pos (by simp)] at this
              exact this
            refine ⟨_, rfl, _, rfl, kn, _, rfl, get, _, rfl, _, rfl, ro, _, rfl, DPut.k (k := Sum.inl z) h2' (by omega), ?_⟩
            have N5 := N4.side (u := .dK (putK rkv (Sum.inl z) (V.int ((line' ++ [Qn]).idxOf Qn : Nat)))) h2' (fun _ z => by cases z) (fun _ _ z => by cases z) nro d4 d1 d5
            refine ⟨line' ++ [Qn], _, _, _, _, _, rfl, N5, by rw [upd_ne d6]; exact h1', upd_same, ?_, ?_, fun p hp => ?_⟩
            · rw [et]
              exact h3.put [Qn] dn hin h3.2
            · rw [ext]; simp [extRow, dn, c]
            · rcases List.mem_append.mp hp with y | y
              · exact h5 p y
              · simp at y; subst y; exact ⟨rq, by omega⟩
      · rintro σ H'' ⟨line', kvs', rkv, v6, v7, v8, rfl, N3, h1, h2, h3, h4, h5⟩
        have ea_ : (FG.signs acts).take (iv (FG.signs acts)).length = FG.signs acts := by rw [iv_len]; exact List.take_length
        rw [ea_] at h3 h4
        have B2 : Bfs (delta F) (FG.signs acts) (rows.length + 1) line' := by rw [h4]; exact .row B hP
        obtain ⟨more, em⟩ := FG.extRow_app (delta F) Pl (FG.signs acts) line
        have hPl' : line'[rows.length]? = some Pl := by
          rw [h4, em, List.getElem?_append, if_pos lt]; exact hP
        have val : ∀ s ∈ FG.signs acts, (valV rkv (Sum.inl s)).getD V.non = ov (numD (delta F) (FG.signs acts) line' rows.length s) := fun s hs => by
          rw [h3.1, if_pos hs]
          unfold numD
          rw [if_pos hs, hPl']
          show _ = ov (Option.map (fun x => List.idxOf x line') (FG.delta F Pl s))
          cases FG.delta F Pl s <;> rfl
        refine ⟨_, rfl, .inl ⟨rfl, _, SqL.of N3.fo_⟩, _, rfl, _, _, rfl, rfl, 1, (acts : Int) + 1, rfl, ⟨by decide, by decide, by omega, by omega⟩, fun D hD => ?_⟩
        have en : (((acts : Int) + 1) - 1).toNat = acts := by omega
        have nDr : D ≠ ro := (ne_of_none h2 hD).symm
        refine lc_range (lo := 1) (n := (((acts : Int) + 1) - 1).toNat) (fun j H5 => ∃ prs : List Addr, H5 D = some (.lst (rv prs)) ∧ prs.length = j ∧ Same H'' H5 ∧ ∀ (x : Nat) (p : Addr), prs[x]? = some p → H5 p = some (.tup [ov (numD (delta F) (FG.signs acts) line' rows.length ((x : Int) + 1)), ov (numD (delta F) (FG.signs acts) line' rows.length (-((x : Int) + 1)))])) ⟨[], upd_same, rfl, Same.new hD, fun x p e => by simp at e⟩ ?_ ?_
        · rintro j H5 hj ⟨prs, p1, p2, p3, p4⟩
          rw [en] at hj
          have h2r : H5 ro = some (.dK rkv) := p3 _ _ h2
          have s1 : (1 : Int) + j ∈ FG.signs acts := FG.mem_signs.mpr ⟨by omega, by omega⟩
          have s2 : -((1 : Int) + j) ∈ FG.signs acts := FG.mem_signs.mpr ⟨by omega, by omega⟩
          refine ⟨rfl, ?_⟩
          refine ⟨_, rfl, ro, rfl, .inl ⟨_, .inl h2r⟩, _, rfl, _, DGet.k (k := Sum.inl ((1 : Int) + j)) h2r, _, rfl, ro, rfl, .inl ⟨_, .inl h2r⟩, _, rfl, _, rfl, _, DGet.k (k := Sum.inl (-((1 : Int) + j))) h2r, by show 2 ≤ sizeLine; decide, fun t ht => ?_⟩
          rw [val _ s1, val _ s2]
          have big : (8000000 : Nat) < sizeLine := by decide
          have nt : D ≠ t := ne_of_none p1 ht
          refine ⟨_, by rw [upd_ne nt]; exact p1, by rw [rv_len]; omega, prs ++ [t], ?_, by simp [p2], same_upd (p3.trans (Same.new ht)) hD, fun x p e => ?_⟩
          · rw [upd_same]; simp [rv]
          · have key : (upd H5 t (.tup [ov (numD (delta F) (FG.signs acts) line' rows.length ((1 : Int) + j)), ov (numD (delta F) (FG.signs acts) line' rows.length (-((1 : Int) + j)))])) p = some (.tup [ov (numD (delta F) (FG.signs acts) line' rows.length ((x : Int) + 1)), ov (numD (delta F) (FG.signs acts) line' rows.length (-((x : Int) + 1)))]) := by
              rw [List.getElem?_append] at e
              by_cases c : x < prs.length
              · rw [if_pos c] at e
                have := p4 x p e
                rw [upd_ne (ne_of_none this ht)]; exact this
              · rw [if_neg c] at e
                have ek : x - prs.length = 0 := by
                  obtain ⟨h1, _⟩ := List.getElem?_eq_some_iff.mp e
                  simp at h1; omega
                rw [ek] at e
                simp at e
                subst e
                have : x = j := by omega
                subst this
                rw [upd_same, show (1 : Int) + (x : Nat) = (x : Nat) + 1 by omega]
            rw [upd_ne (ne_of key (by rw [upd_ne nt]; exact p1) (fun z => by cases z))]
            exact key
        · rintro H5 ⟨prs, p1, p2, p3, p4⟩
          rw [en] at p2
          have big : (8000000 : Nat) < sizeLine := by decide
          have N4 := N3.go p3
          refine ⟨D, _, rfl, .inl (SqL.of p1), fun r H6 s6 hr6 => ?_⟩
          have N5 := N4.go s6
          refine ⟨fo, _, _, rfl, rfl, N5.fo_, by rw [rv_len]; omega, ?_⟩
          have e9 : rv rows ++ [V.ref r] = rv (rows ++ [r]) := by simp [rv]
          rw [e9]
          have N6 := N5.row (r := r) ⟨prs, hr6, p2, fun x p e => SqT.of (s6 _ _ (p4 x p e))⟩
          exact ⟨m - 1, by omega, line', kvs', rows ++ [r], _, _, _, _, rfl, N6, by simpa using B2, h5, by rw [List.length_append]; simp; omega⟩
    · have e : rows.length = line.length := by
        have h1 := B.le
        have h2 : ¬ (((rv rows).length : Nat) : Int) < ((nv line).length : Nat) := fun z => hge (decide_eq_true z)
        rw [rv_len, nv_len] at h2
        omega
      rw [e] at B
      refine ⟨_, rfl, fo, _, rfl, .inl (SqL.of N.fo_), fun a H1 s1 h1 => ?_⟩
      exact k a H1 line (N.same.trans s1) B lle ⟨rows, h1, e, fun j r hr => (N.ro j r hr).go s1⟩
end
end W43
namespace W43
open PySem PySem.Spec PyProof.Rows L2 OW
open C8 (Cal Met Mak pe_c pe_mt pe_mt0 pe_mk)
open FG (Red net readOn Dl Fo rep Down endsOf putEnd putEdge newP putLoop putAll fo0 InvF InvL Flat mu foldOne Bfs extRow numD delta total GraphOf Num flower)
/-- the doings D, tuples at as -/
def DoAt (K : PySem.W.Frag) (H : Hp) (as : List Addr) (D : List FG.W) : Prop := as.length = D.length ∧ ∀ (i : Nat) (a : Addr), as[i]? = some a → ∃ d, D[i]? = some d ∧ SqT K H a (iv d)
theorem DoAt.go {K : PySem.W.Frag} {H H' : Hp} {as : List Addr} {D : List FG.W} (h : DoAt K H as D) (s : Same H H') : DoAt K H' as D :=
  ⟨h.1, fun i a e => let ⟨d, h1, h2⟩ := h.2 i a e; ⟨d, h1, s.tup h2⟩⟩
theorem total_take (D : List FG.W) {i : Nat} {d : FG.W} (h : D[i]? = some d) : total (D.take (i + 1)) = total (D.take i) + d.length ∧ total (D.take (i + 1)) ≤ total D := by
  have e1 : D.take (i + 1) = D.take i ++ [d] := by rw [List.take_add_one, h]; rfl
  have e2 : total (D.take (i + 1)) = total (D.take i) + d.length := by rw [e1]; simp [FG.total]
  refine ⟨e2, ?_⟩
  have e3 : total D = total (D.take (i + 1)) + total (D.drop (i + 1)) := by
    conv => lhs; rw [← List.take_append_drop (i + 1) D]
    simp only [FG.total, List.map_append, List.sum_append]
  omega
theorem putAll_take (D : List FG.W) {i : Nat} {d : FG.W} (h : D[i]? = some d) (F : Fo) : putAll F (D.take (i + 1)) = putLoop (putAll F (D.take i)) 0 d := by
  have e1 : D.take (i + 1) = D.take i ++ [d] := by rw [List.take_add_one, h]; rfl
  rw [e1]
  simp [FG.putAll]
section
variable {P : Program} {w : World} {K : PySem.W.Frag} {mg : Str → Option Value} {base : Heap}
/-! ### folded_graph -/
def sp_folded_graph (K : PySem.W.Frag) : Sp := fun vs H Q _ => ∃ (acts : Nat) (b : Addr) (as : List Addr) (D : List FG.W), vs = [.int (acts : Nat), .ref b] ∧ SqT K H b (rv as) ∧ DoAt K H as D ∧ acts ≤ 1000 ∧ (∀ d ∈ D, ∀ s ∈ d, s ∈ FG.signs acts) ∧ total D ≤ 3000000 ∧
  ∀ a H' n δ m, Same H H' → GrAt K H' a acts n δ → GraphOf D n δ m → Num acts n δ → 0 < n → n ≤ 1 + total D → Q (.ref a) H'
theorem c_folded_graph (T : Tx K mg) : Cal P w K mg base 4 "folded_graph" (sp_folded_graph K) [] := by
  have c_Folding := c_Folding (P := P) (w := w) (base := base) T
  have m_Folding_put_loop := m_Folding_put_loop (P := P) (w := w) (base := base) T
  have m_Folding_fold := m_Folding_fold (P := P) (w := w) (base := base) T
  have m_Folding_numbered := m_Folding_numbered (P := P) (w := w) (base := base) T
  obtain ⟨fd, F⟩ := T.d_folded_graph
  refine calD F T.g_folded_graph (fun _ _ _ _ _ _ us hl => match us, hl with | [_, _], _ => rfl) sc_folded_graph (fun vs H Q E h => ?_) (fun cdv A outer s H vs Q E hr h => ?_)
  · obtain ⟨acts, b, as, D, rfl, _⟩ := h
    rfl
  · obtain ⟨acts, b, as, D, rfl, hb, hD, ba, hs, ht, k⟩ := h
    refine ⟨_, (pss_cons (ps_set (i := 2) sc_folded_graph.nd rfl (Or.inl rfl) (pe_mk0 c_Folding hr (by decide) rfl))
      (pss_cons (ps_for PassesOwn.never rfl (pi_tup (pv 1)) (pg_name (i := 3) sc_folded_graph.nd rfl (Or.inl rfl)) (pss_one (ps_expr (pe_mt m_Folding_put_loop hr (by decide) (pv 2) (pa_cons (pv 3) pa_nil)))))
      (pss_cons (ps_expr (pe_mt0 m_Folding_fold hr (by decide) (pv 2)))
      (pss_one (ps_ret (pe_mt m_Folding_numbered hr (by decide) (pv 2) (pa_cons (pv 0) pa_nil))))))), ?_⟩
    intro f dx nf ndx nex
    have s0 : Same H (upd (upd H dx (.own f)) f (.ins (He.ga K "Folding") dx [])) := fun x o e => by
      rw [upd_ne (ne_of_none e nf), upd_ne (ne_of_none e ndx)]
      exact e
    refine ⟨f, dx, H, rfl, s0, nf, upd_same, fun H1 I1 => ⟨rfl, ?_⟩⟩
    have sI : ∀ {H' F}, FoAt K H H' f F → Same H H' := fun ⟨_, _, _, _, _, _, i⟩ => i.same
    have inv : ∀ D' : List FG.W, InvF (flower D') (putAll fo0 D') ∧ Flat (putAll fo0 D') ∧ (putAll fo0 D').ps.length ≤ 1 + total D' ∧ mu (putAll fo0 D') = 2 * total D' := fun D' => by
      obtain ⟨h1, h2, h3⟩ := FG.puts_inv D'
      have h4 := FG.all_len D' 1
      have h5 := FG.mu_all D' [] fo0 FG.inv0.1 FG.inv0.2
      have h6 : mu fo0 = 0 := by decide
      exact ⟨h1, h2, by omega, by omega⟩
    refine ⟨_, rfl, b, rfl, ⟨_, (sI I1).tup hb⟩, for_tup (xs := rv as) (fun i σ H' => ∃ v, σ = [some (.int (acts : Nat)), some (.ref b), some (.ref f), v] ∧ FoAt K H H' f (putAll fo0 (D.take i))) ⟨_, rfl, I1⟩ (fun i σ H' _ ⟨v, _, I⟩ => (sI I).tup hb) ?_ ?_⟩
    · rintro i x σ H' hx ⟨v, rfl, I⟩
      have : ∃ a, as[i]? = some a ∧ x = .ref a := by
        rw [List.getElem?_map] at hx
        cases e : as[i]? with
        | none => rw [e] at hx; cases hx
        | some a => rw [e] at hx; exact ⟨a, rfl, (Option.some.inj hx).symm⟩
      obtain ⟨a, ha, rfl⟩ := this
      obtain ⟨d, hd, sd⟩ := hD.2 i a ha
      obtain ⟨h1, h2, h3, h4⟩ := inv (D.take i)
      obtain ⟨t1, t2⟩ := total_take D hd
      obtain ⟨dx1, pa, ea, wa, ds, wr, I⟩ := I
      refine ⟨_, rfl, f, dx1, _, rfl, I.f_, ff_put_loop _ _ _, _, rfl, f, a, H, _, d, _, rfl, ⟨_, _, _, _, _, _, I⟩, sd, h1, h2, by omega, by omega, fun H2 I2 => ?_⟩
      rw [← putAll_take D hd] at I2
      exact ⟨_, rfl, I2⟩
    · rintro σ H' ⟨v, rfl, I⟩
      rw [rv_len, hD.1, List.take_length] at I
      obtain ⟨h1, h2, h3, h4⟩ := inv D
      obtain ⟨dx1, pa, ea, wa, ds, wr, I⟩ := I
      refine ⟨_, rfl, f, dx1, _, rfl, I.f_, ff_fold _ _ _, f, H, _, _, rfl, ⟨_, _, _, _, _, _, I⟩, h1, by omega, fun H2 G I2 iG wG lG => ?_⟩
      obtain ⟨dx2, pa2, ea2, wa2, ds2, wr2, I2⟩ := I2
      refine ⟨_, rfl, f, dx2, _, rfl, I2.f_, ff_numbered _ _ _, _, rfl, f, H, G, _, acts, rfl, ⟨_, _, _, _, _, _, I2⟩, iG, ba, by omega, fun a H3 line s3 B ll hG => ?_⟩
      obtain ⟨g1, g2, g3⟩ := FG.graph_of hs (FG.quot_of iG wG) B
      exact k a H3 _ _ _ (I2.same.trans s3) hG g1 g2 g3 (by omega)
end
end W43
namespace W43
open PySem PySem.Spec PyProof.Rows L2 OW
open C8 (Cal Met Mak pe_c pe_mt pe_mt0 pe_mk)
/-! ### the source of a law's draws -/
def srK (c : Addr) (l m t : Int) : List (Key × V) := [(Sum.inr "cells", .ref c), (Sum.inr "left", .int l), (Sum.inr "mixed", .int m), (Sum.inr "turn", .int t)]
theorem k1_ : ¬ ((Sum.inr ("cells" : Str) : Key) = Sum.inr ("left" : Str)) := fun z => absurd (Sum.inr.inj z) (by decide +kernel)
theorem k2_ : ¬ ((Sum.inr ("cells" : Str) : Key) = Sum.inr ("mixed" : Str)) := fun z => absurd (Sum.inr.inj z) (by decide +kernel)
theorem k3_ : ¬ ((Sum.inr ("cells" : Str) : Key) = Sum.inr ("turn" : Str)) := fun z => absurd (Sum.inr.inj z) (by decide +kernel)
theorem k4_ : ¬ ((Sum.inr ("left" : Str) : Key) = Sum.inr ("mixed" : Str)) := fun z => absurd (Sum.inr.inj z) (by decide +kernel)
theorem k5_ : ¬ ((Sum.inr ("left" : Str) : Key) = Sum.inr ("turn" : Str)) := fun z => absurd (Sum.inr.inj z) (by decide +kernel)
theorem k6_ : ¬ ((Sum.inr ("mixed" : Str) : Key) = Sum.inr ("turn" : Str)) := fun z => absurd (Sum.inr.inj z) (by decide +kernel)
section
variable {c : Addr} {l m t n : Int}
theorem sr_cells : valV (srK c l m t) (Sum.inr "cells") = some (.ref c) := valV_pos rfl
theorem sr_left : valV (srK c l m t) (Sum.inr "left") = some (.int l) := (valV_neg k1_).trans (valV_pos rfl)
theorem sr_mixed : valV (srK c l m t) (Sum.inr "mixed") = some (.int m) := (valV_neg k2_).trans ((valV_neg k4_).trans (valV_pos rfl))
theorem sr_turn : valV (srK c l m t) (Sum.inr "turn") = some (.int t) := (valV_neg k3_).trans ((valV_neg k5_).trans ((valV_neg k6_).trans (valV_pos rfl)))
theorem put_some {kvs : List (Key × V)} {k : Key} {v y : V} (h : valV kvs k = some y) : putK kvs k v = kvs.map fun kv => if kv.1 = k then (kv.1, v) else kv := by
  unfold putK
  rw [valV_any, h]; rfl
theorem put_left : putK (srK c l m t) (Sum.inr "left") (.int n) = srK c n m t := by
  rw [put_some sr_left]
  simp only [srK, List.map_cons, List.map_nil, if_true, if_neg k1_, if_neg (Ne.symm (a := (_ : Key)) k4_), if_neg (Ne.symm (a := (_ : Key)) k5_)]
theorem put_mixed : putK (srK c l m t) (Sum.inr "mixed") (.int n) = srK c l n t := by
  rw [put_some sr_mixed]
  simp only [srK, List.map_cons, List.map_nil, if_true, if_neg k2_, if_neg k4_, if_neg (Ne.symm (a := (_ : Key)) k6_)]
theorem put_turn : putK (srK c l m t) (Sum.inr "turn") (.int n) = srK c l m n := by
  rw [put_some sr_turn]
  simp only [srK, List.map_cons, List.map_nil, if_true, if_neg k3_, if_neg k5_, if_neg k6_]
end
/-- a source at p, its cells at c -/
def SrAt (H : Hp) (p c : Addr) : Prop := ∃ (cells : List Int) (l m t : Int), H p = some (.dK (srK c l m t)) ∧ H c = some (.lst (iv cells))
/-- all is kept beside a source -/
def Sv (p c : Addr) (H H' : Hp) : Prop := ∀ b o, b ≠ p → b ≠ c → H b = some o → H' b = some o
section
variable {H H' H2 : Hp} {p c a : Addr}
theorem Sv.refl : Sv p c H H := fun _ _ _ _ h => h
theorem Sv.trans (h : Sv p c H H') (h' : Sv p c H' H2) : Sv p c H H2 := fun b o n1 n2 e => h' b o n1 n2 (h b o n1 n2 e)
theorem Sv.of (h : Same H H') : Sv p c H H' := fun b o _ _ e => h b o e
theorem SrAt.go (h : SrAt H p c) (s : Same H H') : SrAt H' p c := let ⟨cells, l, m, t, h1, h2⟩ := h; ⟨cells, l, m, t, s _ _ h1, s _ _ h2⟩
theorem SrAt.side {o u : HO} (h : SrAt H p c) (ha : H a = some o) (n1 : ∀ kvs, o ≠ .dK kvs) (n2 : a ≠ c) : SrAt (upd H a u) p c := by
  obtain ⟨cells, l, m, t, h1, h2⟩ := h
  exact ⟨cells, l, m, t, by rw [upd_ne (ne_of h1 ha (Ne.symm (n1 _)))]; exact h1, by rw [upd_ne n2.symm]; exact h2⟩
theorem SrAt.ne (h : SrAt H p c) : p ≠ c := let ⟨_, _, _, _, h1, h2⟩ := h; ne_of h1 h2 (fun z => by cases z)
theorem SrAt.fresh (h : SrAt H p c) (ha : H a = none) : a ≠ p ∧ a ≠ c := let ⟨_, _, _, _, h1, h2⟩ := h; ⟨(ne_of_none h1 ha).symm, (ne_of_none h2 ha).symm⟩
theorem Sv.tup {K : PySem.W.Frag} {xs : List V} (s : Sv p c H H') (h : SrAt H p c) (ht : SqT K H a xs) : SqT K H' a xs := by
  obtain ⟨cells, l, m, t, h1, h2⟩ := h
  rcases ht with (ht | ⟨b, ht⟩) | ht
  · exact .inl (.inl (s a _ (ne_of ht h1 (fun z => by cases z)) (ne_of ht h2 (fun z => by cases z)) ht))
  · exact .inl (.inr ⟨b, s a _ (ne_of ht h1 (fun z => by cases z)) (ne_of ht h2 (fun z => by cases z)) ht⟩)
  · exact .inr ht
theorem Sv.upd {o : HO} (s : Sv p c H H') (h : H a = none ∨ a = p ∨ a = c) : Sv p c H (upd H' a o) := fun b u n1 n2 e => by
  have : b ≠ a := by
    rintro rfl
    rcases h with h | h | h
    · rw [h] at e; cases e
    · exact n1 h
    · exact n2 h
  rw [upd_ne this]; exact s b u n1 n2 e
end
section
variable {P : Program} {w : World} {K : PySem.W.Frag} {mg : Str → Option Value} {base : Heap}
def sp_law_source (K : PySem.W.Frag) : Sp := fun vs H Q _ => ∃ (a : Addr) (ns : List Int), vs = [.ref a] ∧ SqL K H a (iv ns) ∧ ns.length ≤ 1000 ∧ ∀ p c H', Same H H' → SrAt H' p c → H p = none → H c = none → Q (.ref p) H'
theorem c_law_source (T : Tx K mg) : Cal P w K mg base 1 "_law_source" (sp_law_source K) [] := by
  obtain ⟨fd, F⟩ := T.d_law_source
  refine calD F T.g_law_source (fun _ _ _ _ _ _ us hl => match us, hl with | [_], _ => rfl) sc_law_source (fun vs H Q E h => ?_) (fun cdv A outer s H vs Q E hr h => ?_)
  · obtain ⟨a, ns, rfl, _⟩ := h
    rfl
  · obtain ⟨a, ns, rfl, ha, hl, k⟩ := h
    refine ⟨_, (pss_cons (ps_set (i := 1) sc_law_source.nd rfl (Or.inl rfl) pe_int)
      (pss_cons (ps_for PassesOwn.never rfl (pi_list (pv 0)) (pg_name (i := 2) sc_law_source.nd rfl (Or.inl rfl)) (pss_one (ps_set (i := 1) sc_law_source.nd rfl (Or.inl rfl) (pe_op op_mod (pe_callTy call_int1 rfl T.z_int (by decide +kernel) (pa_cons (pe_op op_add (pe_op op_add (pe_op op_mul (pv 1) pe_int) (pe_op op_mul (pv 2) pe_int)) pe_int) pa_nil)) pe_int))))
      (pss_one (ps_ret (pe_disp (pps_cons pe_str (pe_revL (pe_lc (own := [("cell", 2)]) rfl sc_law_source.nd (pi_list (pv 0)) (blkOk_by (own := [("cell", 2)]) (N := ["script", "mixed", "cell"]) (sc := defScope s_law_source) (by decide +kernel)) (fun _ _ _ _ _ => (pg_name (i := 2) sc_law_source.nd rfl (Or.inl rfl))) (fun _ _ _ _ _ => pts_nil) (fun _ _ _ _ _ => (pe_callB call_abs rfl T.z_abs (by decide +kernel) (pa_cons (pv 2) pa_nil))))) (pps_cons pe_str pe_int (pps_cons pe_str (pv 1) (pps_cons pe_str pe_int pps_nil)))) (by rfl) (by rfl) (fun z => by cases z) (by decide)))))), ?_⟩
    refine ⟨_, rfl, a, rfl, ⟨_, ha⟩, for_list (K := K) (a := a) (xs := iv ns) (fun i σ H' => ∃ (m : Int) (v : Option V), H' = H ∧ σ = [some (.ref a), some (.int m), v]) ⟨11, _, rfl, rfl⟩ (fun i σ H' _ ⟨m, v, e, _⟩ => e ▸ ha) ?_ ?_⟩
    · rintro i x σ H' hx ⟨m, v, rfl, rfl⟩
      obtain ⟨z, hz, rfl⟩ := iv_at hx
      exact ⟨_, rfl, _, _, rfl, rfl, .inr ⟨by decide, by decide⟩, _, rfl, _, _, rfl, rfl, .inr ⟨by decide, by decide⟩, _, _, rfl, rfl, _, _, rfl, rfl, .inl ⟨_, rfl, _, _, rfl, rfl, (by show (0 : Int) < 2147483629; decide), _, _, rfl, rfl⟩⟩
    · rintro σ H' ⟨m, v, rfl, rfl⟩
      intro p hp
      refine ⟨_, rfl, a, rfl, ⟨_, (Same.new hp).seq ha⟩, fun D hD => ?_⟩
      obtain ⟨d1, d2⟩ := none_of_upd hD
      refine lc_list (K := K) (a := a) (xs := iv ns) (fun i H2 => H2 = upd (upd H' p (.dK [])) D (.lst (iv ((ns.take i).map fun z => if z < 0 then -z else z)))) rfl (fun i H2 _ e => e ▸ ((Same.new hD).seq ((Same.new hp).seq ha))) (fun i x H2 hx e => ?_) (fun H2 e => ?_)
      · subst e
        obtain ⟨z, hz, rfl⟩ := iv_at hx
        refine ⟨rfl, ?_⟩
        refine ⟨_, rfl, z, rfl, ?_⟩
        have big : (1000 : Nat) < sizeLine := by decide
        refine ⟨_, upd_same, by rw [iv_len, List.length_map, List.length_take]; omega, ?_⟩
        rw [upd_twice, List.take_add_one, hz]
        simp [iv]
      · subst e
        refine ⟨D, _, rfl, SqL.of upd_same, fun c hc => ?_⟩
        obtain ⟨c1, c2⟩ := none_of_upd hc
        obtain ⟨c3, c4⟩ := none_of_upd c1
        rw [show (iv (List.map (fun z : Int => if z < 0 then -z else z) (List.take (iv ns).length ns))).reverse = iv (List.map (fun z : Int => if z < 0 then -z else z) (List.take (iv ns).length ns)).reverse from (List.map_reverse ..).symm]
        refine ⟨_, rfl, by rw [upd_ne c4.symm, upd_ne d2.symm, upd_same], [(Sum.inr "cells", .ref c), (Sum.inr "left", .int 1), (Sum.inr "mixed", .int m), (Sum.inr "turn", .int 0)], rfl, by show 4 ≤ 15; decide, ?_⟩
        have e1 : mergeK [] [((Sum.inr ("cells" : Str) : Key), V.ref c), (Sum.inr ("left" : Str), V.int 1), (Sum.inr ("mixed" : Str), V.int m), (Sum.inr ("turn" : Str), V.int 0)] = srK c 1 m 0 := by
          show putK (putK (putK (putK [] (Sum.inr ("cells" : Str) : Key) (V.ref c)) (Sum.inr ("left" : Str)) (V.int 1)) (Sum.inr ("mixed" : Str)) (V.int m)) (Sum.inr ("turn" : Str)) (V.int 0) = _
          rw [putK_new _ valV_nil, List.nil_append, putK_new _ (show valV [((Sum.inr ("cells" : Str) : Key), V.ref c)] (Sum.inr ("left" : Str)) = none from (valV_neg k1_).trans valV_nil)]
          rw [putK_new _ (show valV ([((Sum.inr ("cells" : Str) : Key), V.ref c)] ++ [(Sum.inr ("left" : Str), V.int 1)]) (Sum.inr ("mixed" : Str)) = none from (valV_neg k2_).trans ((valV_neg k4_).trans valV_nil))]
          rw [putK_new _ (show valV ([((Sum.inr ("cells" : Str) : Key), V.ref c)] ++ [(Sum.inr ("left" : Str), V.int 1)] ++ [(Sum.inr ("mixed" : Str), V.int m)]) (Sum.inr ("turn" : Str)) = none from (valV_neg k3_).trans ((valV_neg k5_).trans ((valV_neg k6_).trans valV_nil)))]
          rfl
        show Q (.ref p) (upd _ p (.dK (mergeK [] [((Sum.inr ("cells" : Str) : Key), V.ref c), (Sum.inr ("left" : Str), V.int 1), (Sum.inr ("mixed" : Str), V.int m), (Sum.inr ("turn" : Str), V.int 0)])))
        rw [e1]
        exact k p c _ (same_upd (same_upd (same_upd (Same.new hp) d1) c3) hp) ⟨_, 1, m, 0, upd_same, by rw [upd_ne c4, upd_same]⟩ hp c3
def sp_law_pick (K : PySem.W.Frag) : Sp := fun vs H Q _ => ∃ (p c : Addr) (n : Int), vs = [.ref p, .int n] ∧ SrAt H p c ∧ 0 < n ∧ n ≤ 1000000 ∧ ∀ (r : Int) H', Sv p c H H' → SrAt H' p c → 0 ≤ r → r < n → Q (.int r) H'
theorem c_law_pick (T : Tx K mg) : Cal P w K mg base 1 "_law_pick" (sp_law_pick K) [] := by
  obtain ⟨fd, F⟩ := T.d_law_pick
  refine calD F T.g_law_pick (fun _ _ _ _ _ _ us hl => match us, hl with | [_, _], _ => rfl) sc_law_pick (fun vs H Q E h => ?_) (fun cdv A outer s H vs Q E hr h => ?_)
  · obtain ⟨p, c, n, rfl, _⟩ := h
    rfl
  · obtain ⟨p, c, n, rfl, hS, hn, hn2, k⟩ := h
    have hu := hu_of hr
    refine ⟨_, (pss_cons (ps_while PassesOwn.never (PW.pt (pw_and (pt_cmpR op_gt (pv 1) pe_int (nomark _)) (pw_and (pt_cmpR op_lt (pe_dget hu (pv 0) pe_str (fun _ _ => rfl)) pe_int (nomark _)) (pw_and1 (pt_cmpR op_gt (pe_callB call_len_seq rfl T.z_len (by decide +kernel) (pa_cons (pe_dget hu (pv 0) pe_str (fun _ _ => rfl)) pa_nil)) pe_int (nomark _)))))) (pss_one (ps_dput hu (pv 0) pe_str (pe_bm0 PySem.F.plainAttrs_list PySem.F.slot_list_pop PySem.F.type_list_pop mt_pop (pe_dget hu (pv 0) pe_str (fun _ _ => rfl))) rfl)))
      (pss_cons (ps_set (i := 2) sc_law_pick.nd rfl (Or.inl rfl) (pe_dget hu (pv 0) pe_str (fun _ _ => rfl)))
      (pss_cons (ps_if (PW.pt (pw_or (pt_cmpR op_lt (pv 1) pe_int (nomark _)) (pw_or1 (pt_cmpR op_gt (pv 2) pe_int (nomark _))))) (pss_cons (ps_dput hu (pv 0) pe_str (pe_op op_fdivN (pv 2) (pe_callB (call_max2 rfl) rfl T.z_max (by decide +kernel) (pa_cons pe_int (pa_cons (pv 1) pa_nil)))) rfl)
      (pss_one (ps_ret (pe_op op_mod (pe_callTy call_int1 rfl T.z_int (by decide +kernel) (pa_cons (pv 2) pa_nil)) (pe_callB (call_max2 rfl) rfl T.z_max (by decide +kernel) (pa_cons pe_int (pa_cons (pv 1) pa_nil))))))) pss_nil)
      (pss_cons (ps_dput hu (pv 0) pe_str (pe_op op_add (pe_dget hu (pv 0) pe_str (fun _ _ => rfl)) pe_int) rfl)
      (pss_cons (ps_set (i := 3) sc_law_pick.nd rfl (Or.inl rfl) (pe_op op_mod (pe_callTy call_int1 rfl T.z_int (by decide +kernel) (pa_cons (pe_op op_add (pe_dget hu (pv 0) pe_str (fun _ _ => rfl)) (pe_op op_mul (pe_dget hu (pv 0) pe_str (fun _ _ => rfl)) pe_int)) pa_nil)) pe_int))
      (pss_cons (ps_set (i := 3) sc_law_pick.nd rfl (Or.inl rfl) (pe_op op_mod (pe_callTy call_int1 rfl T.z_int (by decide +kernel) (pa_cons (pe_op op_add (pe_op op_mul (pv 3) (pv 3)) (pe_op op_mul (pe_dget hu (pv 0) pe_str (fun _ _ => rfl)) pe_int)) pa_nil)) pe_int))
      (pss_cons (ps_dput hu (pv 0) pe_str (pv 3) rfl)
      (pss_one (ps_ret (pe_op op_mod (pe_callTy call_int1 rfl T.z_int (by decide +kernel) (pa_cons (pe_op op_fdiv (pv 3) pe_int) pa_nil)) (pv 1))))))))))), ?_⟩
    refine ⟨fun m σ H' => ∃ (cells : List Int) (l x t : Int) (v2 v3 : Option V), σ = [some (.ref p), some (.int n), v2, v3] ∧ Sv p c H H' ∧ H' p = some (.dK (srK c l x t)) ∧ H' c = some (.lst (iv cells)) ∧ cells.length = m, ?_, ?_⟩
    · obtain ⟨cells, l, m, t, h1, h2⟩ := hS
      exact ⟨_, cells, l, m, t, _, _, rfl, Sv.refl, h1, h2, rfl⟩
    rintro m σ H' ⟨cells, l, x, t, v2, v3, rfl, s1, h1, h2, hm⟩
    have dcells : DGet H' p (V.str "cells") (some (.ref c)) := by
      have := DGet.k (k := Sum.inr "cells") h1
      rwa [sr_cells] at this
    have dleft : DGet H' p (V.str "left") (some (.int l)) := by
      have := DGet.k (k := Sum.inr "left") h1
      rwa [sr_left] at this
    have n0 : p ≠ c := ne_of h1 h2 (fun z => by cases z)
    have small : (srK c l x t).length < sizeLine := by show 4 < sizeLine; decide
    refine ⟨_, rfl, _, _, rfl, rfl, _, rfl, ?_⟩
    refine ite2 (fun c1 => ?_) (fun c1 => ?_)
    · refine ⟨_, rfl, p, _, rfl, dleft, _, _, rfl, rfl, _, rfl, ?_⟩
      refine ite2 (fun c2 => ?_) (fun c2 => ?_)
      · refine ⟨_, rfl, p, _, rfl, dcells, c, _, rfl, .inl (SqL.of h2), _, _, rfl, rfl, _, rfl, ?_⟩
        refine ite2 (fun c3 => ?_) (fun c3 => ?_)
        · have lc : 0 < cells.length := by have := of_decide_eq_true c3; rw [iv_len] at this; omega
          refine ⟨_, fun _ _ z => z, ?_⟩
          obtain ⟨z, hz⟩ : ∃ z, cells[cells.length - 1]? = some z := ⟨_, List.getElem?_eq_getElem (by omega)⟩
          have h3 : (upd H' c (.lst (iv cells.dropLast))) p = some (.dK (srK c l x t)) := by rw [upd_ne n0]; exact h1
          refine ⟨_, rfl, p, _, rfl, dcells, .inl ⟨rfl, _, SqL.of h2⟩, c, _, .int z, rfl, rfl, h2, by rw [iv_len]; exact iv_get hz, _, rfl, p, _, rfl, DPut.k (k := Sum.inr "left") (by rw [show (iv cells).dropLast = iv cells.dropLast from by simp [iv]]; exact h3) small, ?_⟩
          rw [put_left, show (iv cells).dropLast = iv cells.dropLast from by simp [iv]]
          exact ⟨cells.length - 1, by omega, cells.dropLast, _, _, _, _, _, rfl, (s1.upd (.inr (.inr rfl))).upd (.inr (.inl rfl)), upd_same, by rw [upd_ne n0.symm, upd_same], by simp⟩
        · refine ⟨_, rfl, p, _, rfl, dleft, ?_⟩
          refine ⟨_, rfl, _, _, rfl, rfl, _, rfl, ?_⟩
          have mx : (1 : Int) ≤ (if n > 1 then n else 1) ∧ (if n > 1 then n else 1) ≤ n := by split <;> omega
          have go : ∀ H2, Sv p c H H2 → SrAt H2 p c → Q (.int (l % (if n > 1 then n else 1))) H2 := fun H2 q1 q2 => k _ H2 q1 q2 (Int.emod_nonneg _ (by omega)) (Int.lt_of_lt_of_le (Int.emod_lt_of_pos _ (by omega)) mx.2)
          have fin : ∀ l', Q (.int (l % (if n > 1 then n else 1))) (upd H' p (.dK (srK c l' x t))) := fun l' => go _ (s1.upd (.inr (.inl rfl))) ⟨_, _, _, _, upd_same, by rw [upd_ne n0.symm]; exact h2⟩
          refine ite2 (fun d1 => ?_) (fun d1 => ?_)
          · refine iteT ?_
            refine ⟨_, rfl, _, rfl, 1, n, rfl, _, _, rfl, rfl, ⟨by omega, by omega⟩, _, rfl, p, _, rfl, DPut.k (k := Sum.inr "left") h1 small, ?_⟩
            rw [put_left]
            exact ⟨_, rfl, .inl ⟨_, rfl, _, rfl, 1, n, rfl, _, _, rfl, rfl, by omega, fin _⟩⟩
          · refine ⟨_, rfl, _, _, rfl, rfl, _, rfl, ?_⟩
            refine ite2 (fun d2 => ?_) (fun d2 => ?_)
            · refine ⟨_, rfl, _, rfl, 1, n, rfl, _, _, rfl, rfl, ⟨by omega, by omega⟩, _, rfl, p, _, rfl, DPut.k (k := Sum.inr "left") h1 small, ?_⟩
              rw [put_left]
              exact ⟨_, rfl, .inl ⟨_, rfl, _, rfl, 1, n, rfl, _, _, rfl, rfl, by omega, fin _⟩⟩
            · have dturn : DGet H' p (V.str "turn") (some (.int t)) := by
                have := DGet.k (k := Sum.inr "turn") h1
                rwa [sr_turn] at this
              refine ⟨_, rfl, p, _, rfl, dturn, _, _, rfl, rfl, _, rfl, p, _, rfl, DPut.k (k := Sum.inr "turn") h1 small, ?_⟩
              rw [put_turn]
              have dturn2 : DGet (upd H' p (.dK (srK c l x (t + 1)))) p (V.str "turn") (some (.int (t + 1))) := by
                have := DGet.k (k := Sum.inr "turn") (upd_same (H := H') (a := p) (o := .dK (srK c l x (t + 1))))
                rwa [sr_turn] at this
              have dmixed2 : DGet (upd H' p (.dK (srK c l x (t + 1)))) p (V.str "mixed") (some (.int x)) := by
                have := DGet.k (k := Sum.inr "mixed") (upd_same (H := H') (a := p) (o := .dK (srK c l x (t + 1))))
                rwa [sr_mixed] at this
              refine ⟨_, rfl, p, _, rfl, dmixed2, _, rfl, p, _, rfl, dturn2, _, _, rfl, rfl, .inr ⟨by decide, by decide⟩, _, _, rfl, rfl, .inl ⟨_, rfl, _, _, rfl, rfl, by show (0 : Int) < 998244353; decide, ?_⟩⟩
              generalize hy : (x + (t + 1) * 104729) % 998244353 = y
              have y1 : 0 ≤ y := by rw [← hy]; exact Int.emod_nonneg _ (by decide)
              have y2 : y < 998244353 := by rw [← hy]; exact Int.emod_lt_of_pos _ (by decide)
              refine ⟨_, rfl, _, rfl, _, _, rfl, rfl, .inl ⟨by omega, by omega⟩, _, rfl, p, _, rfl, dturn2, _, _, rfl, rfl, .inr ⟨by decide, by decide⟩, _, _, rfl, rfl, .inl ⟨_, rfl, _, _, rfl, rfl, by show (0 : Int) < 2147483647; decide, ?_⟩⟩
              refine ⟨_, rfl, _, rfl, p, _, rfl, DPut.k (k := Sum.inr "mixed") upd_same small, ?_⟩
              rw [put_mixed, upd_twice]
              refine ⟨_, rfl, _, _, rfl, rfl, ⟨by decide, by decide⟩, .inl ⟨_, rfl, _, rfl, _, _, rfl, rfl, hn, ?_⟩⟩
              exact k _ _ (s1.upd (.inr (.inl rfl))) ⟨_, _, _, _, upd_same, by rw [upd_ne n0.symm]; exact h2⟩ (Int.emod_nonneg _ (by omega)) (Int.emod_lt_of_pos _ hn)
      · refine iteF ?_
        refine ⟨_, rfl, p, _, rfl, dleft, ?_⟩
        refine ⟨_, rfl, _, _, rfl, rfl, _, rfl, ?_⟩
        have mx : (1 : Int) ≤ (if n > 1 then n else 1) ∧ (if n > 1 then n else 1) ≤ n := by split <;> omega
        have go : ∀ H2, Sv p c H H2 → SrAt H2 p c → Q (.int (l % (if n > 1 then n else 1))) H2 := fun H2 q1 q2 => k _ H2 q1 q2 (Int.emod_nonneg _ (by omega)) (Int.lt_of_lt_of_le (Int.emod_lt_of_pos _ (by omega)) mx.2)
        have fin : ∀ l', Q (.int (l % (if n > 1 then n else 1))) (upd H' p (.dK (srK c l' x t))) := fun l' => go _ (s1.upd (.inr (.inl rfl))) ⟨_, _, _, _, upd_same, by rw [upd_ne n0.symm]; exact h2⟩
        refine ite2 (fun d1 => ?_) (fun d1 => ?_)
        · refine iteT ?_
          refine ⟨_, rfl, _, rfl, 1, n, rfl, _, _, rfl, rfl, ⟨by omega, by omega⟩, _, rfl, p, _, rfl, DPut.k (k := Sum.inr "left") h1 small, ?_⟩
          rw [put_left]
          exact ⟨_, rfl, .inl ⟨_, rfl, _, rfl, 1, n, rfl, _, _, rfl, rfl, by omega, fin _⟩⟩
        · refine ⟨_, rfl, _, _, rfl, rfl, _, rfl, ?_⟩
          refine ite2 (fun d2 => ?_) (fun d2 => ?_)
          · refine ⟨_, rfl, _, rfl, 1, n, rfl, _, _, rfl, rfl, ⟨by omega, by omega⟩, _, rfl, p, _, rfl, DPut.k (k := Sum.inr "left") h1 small, ?_⟩
            rw [put_left]
            exact ⟨_, rfl, .inl ⟨_, rfl, _, rfl, 1, n, rfl, _, _, rfl, rfl, by omega, fin _⟩⟩
          · have dturn : DGet H' p (V.str "turn") (some (.int t)) := by
              have := DGet.k (k := Sum.inr "turn") h1
              rwa [sr_turn] at this
            refine ⟨_, rfl, p, _, rfl, dturn, _, _, rfl, rfl, _, rfl, p, _, rfl, DPut.k (k := Sum.inr "turn") h1 small, ?_⟩
            rw [put_turn]
            have dturn2 : DGet (upd H' p (.dK (srK c l x (t + 1)))) p (V.str "turn") (some (.int (t + 1))) := by
              have := DGet.k (k := Sum.inr "turn") (upd_same (H := H') (a := p) (o := .dK (srK c l x (t + 1))))
              rwa [sr_turn] at this
            have dmixed2 : DGet (upd H' p (.dK (srK c l x (t + 1)))) p (V.str "mixed") (some (.int x)) := by
              have := DGet.k (k := Sum.inr "mixed") (upd_same (H := H') (a := p) (o := .dK (srK c l x (t + 1))))
              rwa [sr_mixed] at this
            refine ⟨_, rfl, p, _, rfl, dmixed2, _, rfl, p, _, rfl, dturn2, _, _, rfl, rfl, .inr ⟨by decide, by decide⟩, _, _, rfl, rfl, .inl ⟨_, rfl, _, _, rfl, rfl, by show (0 : Int) < 998244353; decide, ?_⟩⟩
            generalize hy : (x + (t + 1) * 104729) % 998244353 = y
            have y1 : 0 ≤ y := by rw [← hy]; exact Int.emod_nonneg _ (by decide)
            have y2 : y < 998244353 := by rw [← hy]; exact Int.emod_lt_of_pos _ (by decide)
            refine ⟨_, rfl, _, rfl, _, _, rfl, rfl, .inl ⟨by omega, by omega⟩, _, rfl, p, _, rfl, dturn2, _, _, rfl, rfl, .inr ⟨by decide, by decide⟩, _, _, rfl, rfl, .inl ⟨_, rfl, _, _, rfl, rfl, by show (0 : Int) < 2147483647; decide, ?_⟩⟩
            refine ⟨_, rfl, _, rfl, p, _, rfl, DPut.k (k := Sum.inr "mixed") upd_same small, ?_⟩
            rw [put_mixed, upd_twice]
            refine ⟨_, rfl, _, _, rfl, rfl, ⟨by decide, by decide⟩, .inl ⟨_, rfl, _, rfl, _, _, rfl, rfl, hn, ?_⟩⟩
            exact k _ _ (s1.upd (.inr (.inl rfl))) ⟨_, _, _, _, upd_same, by rw [upd_ne n0.symm]; exact h2⟩ (Int.emod_nonneg _ (by omega)) (Int.emod_lt_of_pos _ hn)
    · refine iteF ?_
      refine ⟨_, rfl, p, _, rfl, dleft, ?_⟩
      refine ⟨_, rfl, _, _, rfl, rfl, _, rfl, ?_⟩
      have mx : (1 : Int) ≤ (if n > 1 then n else 1) ∧ (if n > 1 then n else 1) ≤ n := by split <;> omega
      have go : ∀ H2, Sv p c H H2 → SrAt H2 p c → Q (.int (l % (if n > 1 then n else 1))) H2 := fun H2 q1 q2 => k _ H2 q1 q2 (Int.emod_nonneg _ (by omega)) (Int.lt_of_lt_of_le (Int.emod_lt_of_pos _ (by omega)) mx.2)
      have fin : ∀ l', Q (.int (l % (if n > 1 then n else 1))) (upd H' p (.dK (srK c l' x t))) := fun l' => go _ (s1.upd (.inr (.inl rfl))) ⟨_, _, _, _, upd_same, by rw [upd_ne n0.symm]; exact h2⟩
      refine ite2 (fun d1 => ?_) (fun d1 => ?_)
      · refine iteT ?_
        refine ⟨_, rfl, _, rfl, 1, n, rfl, _, _, rfl, rfl, ⟨by omega, by omega⟩, _, rfl, p, _, rfl, DPut.k (k := Sum.inr "left") h1 small, ?_⟩
        rw [put_left]
        exact ⟨_, rfl, .inl ⟨_, rfl, _, rfl, 1, n, rfl, _, _, rfl, rfl, by omega, fin _⟩⟩
      · refine ⟨_, rfl, _, _, rfl, rfl, _, rfl, ?_⟩
        refine ite2 (fun d2 => ?_) (fun d2 => ?_)
        · refine ⟨_, rfl, _, rfl, 1, n, rfl, _, _, rfl, rfl, ⟨by omega, by omega⟩, _, rfl, p, _, rfl, DPut.k (k := Sum.inr "left") h1 small, ?_⟩
          rw [put_left]
          exact ⟨_, rfl, .inl ⟨_, rfl, _, rfl, 1, n, rfl, _, _, rfl, rfl, by omega, fin _⟩⟩
        · have dturn : DGet H' p (V.str "turn") (some (.int t)) := by
            have := DGet.k (k := Sum.inr "turn") h1
            rwa [sr_turn] at this
          refine ⟨_, rfl, p, _, rfl, dturn, _, _, rfl, rfl, _, rfl, p, _, rfl, DPut.k (k := Sum.inr "turn") h1 small, ?_⟩
          rw [put_turn]
          have dturn2 : DGet (upd H' p (.dK (srK c l x (t + 1)))) p (V.str "turn") (some (.int (t + 1))) := by
            have := DGet.k (k := Sum.inr "turn") (upd_same (H := H') (a := p) (o := .dK (srK c l x (t + 1))))
            rwa [sr_turn] at this
          have dmixed2 : DGet (upd H' p (.dK (srK c l x (t + 1)))) p (V.str "mixed") (some (.int x)) := by
            have := DGet.k (k := Sum.inr "mixed") (upd_same (H := H') (a := p) (o := .dK (srK c l x (t + 1))))
            rwa [sr_mixed] at this
          refine ⟨_, rfl, p, _, rfl, dmixed2, _, rfl, p, _, rfl, dturn2, _, _, rfl, rfl, .inr ⟨by decide, by decide⟩, _, _, rfl, rfl, .inl ⟨_, rfl, _, _, rfl, rfl, by show (0 : Int) < 998244353; decide, ?_⟩⟩
          generalize hy : (x + (t + 1) * 104729) % 998244353 = y
          have y1 : 0 ≤ y := by rw [← hy]; exact Int.emod_nonneg _ (by decide)
          have y2 : y < 998244353 := by rw [← hy]; exact Int.emod_lt_of_pos _ (by decide)
          refine ⟨_, rfl, _, rfl, _, _, rfl, rfl, .inl ⟨by omega, by omega⟩, _, rfl, p, _, rfl, dturn2, _, _, rfl, rfl, .inr ⟨by decide, by decide⟩, _, _, rfl, rfl, .inl ⟨_, rfl, _, _, rfl, rfl, by show (0 : Int) < 2147483647; decide, ?_⟩⟩
          refine ⟨_, rfl, _, rfl, p, _, rfl, DPut.k (k := Sum.inr "mixed") upd_same small, ?_⟩
          rw [put_mixed, upd_twice]
          refine ⟨_, rfl, _, _, rfl, rfl, ⟨by decide, by decide⟩, .inl ⟨_, rfl, _, rfl, _, _, rfl, rfl, hn, ?_⟩⟩
          exact k _ _ (s1.upd (.inr (.inl rfl))) ⟨_, _, _, _, upd_same, by rw [upd_ne n0.symm]; exact h2⟩ (Int.emod_nonneg _ (by omega)) (Int.emod_lt_of_pos _ hn)
end
end W43
namespace W43
open PySem PySem.Spec PyProof.Rows L2 OW
open C8 (Cal Met Mak pe_c pe_mt pe_mt0 pe_mk)
open FG (Red net undo push total)
theorem shaped_ivL (x : List Int) : SeqAt.shaped (.list (ivD x)) = true := by
  have h1 := canLay_iv x
  have h2 := depthAll_iv x
  simp [SeqAt.shaped, PyData.canLay0, PyData.depth, h1]
  omega
theorem eqv_ivL (x y : List Int) : PyData.eqv (.list (ivD x)) (.list (ivD y)) = decide (x = y) := by
  show PyData.eqvAll (ivD x) (ivD y) = _
  exact eqvAll_iv x y
theorem dp_ivL {K : PySem.W.Frag} {H : Hp} {a : Addr} {x : List Int} (h : SqL K H a (iv x)) : Dp K H (.ref a) (.list (ivD x)) := .lst h (dpAll_iv x)
theorem rv_get {as : List Addr} {i : Nat} {x : V} (h : (rv as)[i]? = some x) : ∃ a, as[i]? = some a ∧ x = .ref a := by
  rw [List.getElem?_map] at h
  cases e : as[i]? with
  | none => rw [e] at h; cases h
  | some a => rw [e] at h; exact ⟨a, rfl, (Option.some.inj h).symm⟩
theorem DoAt.get {K : PySem.W.Frag} {H : Hp} {as : List Addr} {D : List FG.W} (h : DoAt K H as D) {i : Nat} {x : V} (hx : (rv as)[i]? = some x) : ∃ a d, as[i]? = some a ∧ x = .ref a ∧ D[i]? = some d ∧ SqT K H a (iv d) := by
  obtain ⟨a, h1, h2⟩ := rv_get hx
  obtain ⟨d, h3, h4⟩ := h.2 i a h1
  exact ⟨a, d, h1, h2, h3, h4⟩
theorem sd_index {n k : Nat} (h : k < n) : seqIndex? (k : Int) n = some k := by
  unfold seqIndex?
  simp
  omega
section
variable {P : Program} {w : World} {K : PySem.W.Frag} {mg : Str → Option Value} {base : Heap}
def sp_law_of (K : PySem.W.Frag) : Sp := fun vs H Q _ => ∃ (p c l : Addr) (as : List Addr), vs = [.ref p, .ref l] ∧ SrAt H p c ∧ H l = some (.lst (rv as)) ∧ l ≠ c ∧ 0 < as.length ∧ as.length ≤ 1000000 ∧
  ∀ (i : Nat) a H', as[i]? = some a → Sv p c H H' → SrAt H' p c → Q (.ref a) H'
theorem c_law_of (T : Tx K mg) : Cal P w K mg base 2 "_law_of" (sp_law_of K) [] := by
  have c_law_pick := c_law_pick (P := P) (w := w) (base := base) T
  obtain ⟨fd, F⟩ := T.d_law_of
  refine calD F T.g_law_of (fun _ _ _ _ _ _ us hl => match us, hl with | [_, _], _ => rfl) sc_law_of (fun vs H Q E h => ?_) (fun cdv A outer s H vs Q E hr h => ?_)
  · obtain ⟨p, c, l, as, rfl, _⟩ := h
    rfl
  · obtain ⟨p, c, l, as, rfl, hS, hl, nc, h0, h1, k⟩ := h
    refine ⟨_, (pss_one (ps_ret (pe_ix ix_list (pv 1) (pe_c c_law_pick hr (by decide) rfl (pa_cons (pv 0) (pa_cons (pe_callB call_len_seq rfl T.z_len (by decide +kernel) (pa_cons (pv 1) pa_nil)) pa_nil))) (fun _ _ => rfl)))), ?_⟩
    have np : l ≠ p := fun z => by
      obtain ⟨_, _, _, _, h2, _⟩ := hS
      rw [z, h2] at hl; cases hl
    refine ⟨_, rfl, _, rfl, _, rfl, l, _, rfl, .inl (SqL.of hl), p, c, _, rfl, hS, by rw [rv_len]; omega, by rw [rv_len]; omega, fun r H' s1 S1 r0 r1 => ?_⟩
    rw [rv_len] at r1
    have lt : r.toNat < as.length := by omega
    have ha : as[r.toNat]? = some as[r.toNat] := List.getElem?_eq_getElem lt
    refine ⟨l, _, _, _, rfl, rfl, SqL.of (s1 l _ np nc hl), at_of (j := r.toNat) (by omega) (rv_at ha), ?_⟩
    exact k _ _ _ ha s1 S1
def sp_law_mixed (K : PySem.W.Frag) : Sp := fun vs H Q _ => ∃ (p c l : Addr) (as : List Addr), vs = [.ref p, .ref l] ∧ SrAt H p c ∧ H l = some (.lst (rv as)) ∧ l ≠ c ∧ as.length ≤ 1000000 ∧
  ∀ (as' : List Addr) m H', as'.Perm as → Sv p c H H' → SrAt H' p c → H' m = some (.lst (rv as')) → H m = none → Q (.ref m) H'
theorem c_law_mixed (T : Tx K mg) : Cal P w K mg base 2 "_law_mixed" (sp_law_mixed K) [] := by
  have c_law_pick := c_law_pick (P := P) (w := w) (base := base) T
  obtain ⟨fd, F⟩ := T.d_law_mixed
  refine calD F T.g_law_mixed (fun _ _ _ _ _ _ us hl => match us, hl with | [_, _], _ => rfl) sc_law_mixed (fun vs H Q E h => ?_) (fun cdv A outer s H vs Q E hr h => ?_)
  · obtain ⟨p, c, l, as, rfl, _⟩ := h
    rfl
  · obtain ⟨p, c, l, as, rfl, hS, hl, nc, h1, k⟩ := h
    refine ⟨_, (pss_cons (ps_set (i := 2) sc_law_mixed.nd rfl (Or.inr rfl) (pe_callTy call_list_of rfl T.z_list (by decide +kernel) (pa_cons (pv 1) pa_nil)))
      (pss_one (ps_ret (pe_lc (own := [("lap", 3)]) (te := tBM K "list" rPopAt (tVar 2) (tCons (tCall (sp_law_pick K) [] C8.E0 (tCons (tVar 0) (tCons (tCB (fun xs H Q => ∃ p ys, xs = [V.ref p] ∧ (SqL K H p ys ∨ SqT K H p ys) ∧ Q (V.int (ys.length : Nat)) H) (tCons (tVar 2) tNil)) tNil))) tNil)) rfl sc_law_mixed.nd (pi_range1 rfl T.z_range (pa_cons (pe_callB call_len_seq rfl T.z_len (by decide +kernel) (pa_cons (pv 2) pa_nil)) pa_nil)) (blkOk_by (own := [("lap", 3)]) (N := ["source", "things", "rest", "lap"]) (sc := defScope s_law_mixed) (by decide +kernel)) (fun _ _ _ _ _ => (pg_name (i := 3) sc_law_mixed.nd rfl (Or.inl rfl))) (fun _ _ _ _ _ => pts_nil) (fun _ _ _ _ _ => (pe_bm PySem.F.plainAttrs_list PySem.F.slot_list_pop PySem.F.type_list_pop mt_popAt (pv 2) (pa_cons (pe_c c_law_pick hr (by decide) rfl (pa_cons (pv 0) (pa_cons (pe_callB call_len_seq rfl T.z_len (by decide +kernel) (pa_cons (pv 2) pa_nil)) pa_nil))) pa_nil))))))), ?_⟩
    refine ⟨_, rfl, l, _, rfl, .inl (SqL.of hl), fun r hr0 => ?_⟩
    obtain ⟨f1, f2⟩ := hS.fresh hr0
    refine ⟨_, rfl, r, _, rfl, .inl (SqL.of upd_same), ?_⟩
    refine ⟨_, rfl, by rw [rv_len]; omega, by rw [rv_len]; omega, fun D hD => ?_⟩
    have en : (((rv as).length : Nat) : Int).toNat = as.length := by rw [rv_len]; simp
    obtain ⟨g1, g2⟩ := none_of_upd hD
    obtain ⟨g3, g4⟩ := hS.fresh g1
    have big : (1000000 : Nat) < sizeLine := by decide
    refine lc_range (lo := 0) (n := (((rv as).length : Nat) : Int).toNat) (fun j H' => ∃ rs got : List Addr, H' r = some (.lst (rv rs)) ∧ H' D = some (.lst (rv got)) ∧ (got ++ rs).Perm as ∧ rs.length + j = as.length ∧ Sv p c H H' ∧ SrAt H' p c)
      ⟨as, [], by rw [upd_ne g2.symm, upd_same], upd_same, .refl _, rfl, (Sv.refl.upd (.inl hr0)).upd (.inl g1), (hS.go (Same.new hr0)).go (Same.new hD)⟩ ?_ ?_
    · rintro j H' hj ⟨rs, got, q1, q2, q3, q4, q5, q6⟩
      rw [en] at hj
      refine ⟨rfl, ?_⟩
      refine ⟨_, rfl, .inl ⟨rfl, _, SqL.of q1⟩, _, rfl, _, rfl, r, _, rfl, .inl (SqL.of q1), p, c, _, rfl, q6, by rw [rv_len]; omega, by rw [rv_len]; omega, fun x H2 s2 S2 x0 x1 => ?_⟩
      rw [rv_len] at x1
      have lt : x.toNat < rs.length := by omega
      have hx : rs[x.toNat]? = some rs[x.toNat] := List.getElem?_eq_getElem lt
      have w1 := s2 r _ f1 f2 q1
      have w2 := s2 D _ g3 g4 q2
      have pl := q3.length_eq
      rw [List.length_append] at pl
      refine ⟨r, _, x, x.toNat, _, rfl, rfl, w1, by omega, by omega, ?_, rv_at hx, ?_⟩
      · have := sd_index (n := (rv rs).length) (k := x.toNat) (by rw [rv_len]; exact lt)
        rwa [show ((x.toNat : Nat) : Int) = x by omega] at this
      · have w3 : (upd H2 r (.lst ((rv rs).eraseIdx x.toNat))) D = some (.lst (rv got)) := by rw [upd_ne g2]; exact w2
        refine ⟨_, w3, by rw [rv_len]; omega, rs.eraseIdx x.toNat, got ++ [rs[x.toNat]], ?_, ?_, ?_, ?_, ?_, ?_⟩
        · rw [upd_ne g2.symm, upd_same]
          congr 2
          simp only [rv, List.eraseIdx_eq_take_drop_succ, List.map_append, List.map_take, List.map_drop]
        · rw [upd_same]; simp [rv]
        · refine List.Perm.trans ?_ q3
          rw [List.append_assoc]
          refine List.Perm.append_left _ ?_
          rw [List.eraseIdx_eq_take_drop_succ]
          have e0 : rs.take x.toNat ++ rs[x.toNat] :: rs.drop (x.toNat + 1) = rs := by
            rw [← List.drop_eq_getElem_cons lt, List.take_append_drop]
          conv => rhs; rw [← e0]
          rw [List.singleton_append]
          exact List.perm_middle.symm
        · rw [List.length_eraseIdx, if_pos lt]; omega
        · exact ((q5.trans s2).upd (.inl hr0)).upd (.inl g1)
        · exact (S2.side w1 (fun _ z => by cases z) f2).side w3 (fun _ z => by cases z) g4
    · rintro H' ⟨rs, got, q1, q2, q3, q4, q5, q6⟩
      rw [en] at q4
      have : rs = [] := List.length_eq_zero_iff.mp (by omega)
      subst this
      rw [List.append_nil] at q3
      exact k got D H' q3 q5 q6 q2 g1
def sp_law_join (K : PySem.W.Frag) : Sp := fun vs H Q _ => ∃ (l : Addr) (as : List Addr) (D : List FG.W), vs = [.ref l] ∧ SqL K H l (rv as) ∧ DoAt K H as D ∧ total D ≤ 1000000 ∧ RetT K (iv (net D.flatten)) H Q
theorem c_law_join (T : Tx K mg) : Cal P w K mg base 1 "_law_join" (sp_law_join K) [] := by
  obtain ⟨fd, F⟩ := T.d_law_join
  refine calD F T.g_law_join (fun _ _ _ _ _ _ us hl => match us, hl with | [_], _ => rfl) sc_law_join (fun vs H Q E h => ?_) (fun cdv A outer s H vs Q E hr h => ?_)
  · obtain ⟨l, as, D, rfl, _⟩ := h
    rfl
  · obtain ⟨l, as, D, rfl, hl, hD, ht, k⟩ := h
    refine ⟨_, (pss_cons (ps_set (i := 1) sc_law_join.nd rfl (Or.inl rfl) (pe_lst pa_nil))
      (pss_cons (ps_for PassesOwn.never rfl (pi_list (pv 0)) (pg_name (i := 2) sc_law_join.nd rfl (Or.inl rfl)) (pss_one (ps_for PassesOwn.never rfl (pi_tup (pv 2)) (pg_name (i := 3) sc_law_join.nd rfl (Or.inl rfl)) (pss_one (ps_if (PW.pt (pw_and (pt_cmpR (op_neD hr.units) (pv 1) (pe_lst pa_nil) (nomark _)) (pw_and1 (pt_cmpR op_eq (pe_ix ix_list (pv 1) (pe_un un_neg pe_int) (fun _ _ => rfl)) (pe_un un_neg (pv 3)) (nomark _))))) (pss_one (ps_expr (pe_bm0 PySem.F.plainAttrs_list PySem.F.slot_list_pop PySem.F.type_list_pop mt_pop (pv 1)))) (pss_one (ps_expr (pe_bm PySem.F.plainAttrs_list PySem.F.slot_list_append PySem.F.type_list_append mt_append (pv 1) (pa_cons (pv 3) pa_nil)))))))))
      (pss_one (ps_ret (pe_callTy call_tupleR rfl T.z_tuple (by decide +kernel) (pa_cons (pv 1) pa_nil)))))), ?_⟩
    refine ⟨Nat.zero_le _, fun f hf => ?_⟩
    have s0 : Same H (upd H f (.lst [])) := Same.new hf
    refine ⟨_, rfl, l, rfl, ⟨_, s0.seq hl⟩, for_list (K := K) (a := l) (xs := rv as) (fun i σ H' => ∃ v2 v3, σ = [some (.ref l), some (.ref f), v2, v3] ∧ Same H H' ∧ H' f = some (.lst (iv (net (D.take i).flatten)))) ⟨_, _, rfl, s0, upd_same⟩ (fun i σ H' _ ⟨_, _, _, s1, _⟩ => s1.seq hl) ?_ ?_⟩
    · rintro i x σ H' hx ⟨v2, v3, rfl, s1, h1⟩
      obtain ⟨a, d, ha, rfl, hd, hT⟩ := hD.get hx
      obtain ⟨t1, t2⟩ := total_take D hd
      have ef : (D.take (i + 1)).flatten = (D.take i).flatten ++ d := by rw [List.take_add_one, hd]; simp
      refine ⟨_, rfl, a, rfl, ⟨_, s1.tup hT⟩, for_tup (K := K) (a := a) (xs := iv d) (fun j σ H' => ∃ v3, σ = [some (.ref l), some (.ref f), some (.ref a), v3] ∧ Same H H' ∧ H' f = some (.lst (iv ((d.take j).foldl push (net (D.take i).flatten))))) ⟨_, rfl, s1, h1⟩ (fun j σ H' _ ⟨_, _, s1, _⟩ => s1.tup hT) ?_ ?_⟩
      · rintro j x σ H' hx ⟨v3, rfl, s1, h1⟩
        obtain ⟨z, hz, rfl⟩ := iv_at hx
        have ej : (d.take (j + 1)).foldl push (net (D.take i).flatten) = push ((d.take j).foldl push (net (D.take i).flatten)) z := by rw [List.take_add_one, hz]; simp
        have lenb : ((d.take j).foldl push (net (D.take i).flatten)).length ≤ 2000000 := by
          have b1 := FG.foldl_len (d.take j) (net (D.take i).flatten)
          have b2 := FG.net_len (D.take i).flatten
          have b3 : (d.take j).length ≤ d.length := by rw [List.length_take]; omega
          have b4 : (D.take i).flatten.length = total (D.take i) := by simp [FG.total, List.length_flatten]
          omega
        generalize (d.take j).foldl push (net (D.take i).flatten) = u at *
        have nf : ∀ {y}, H' y = none → f ≠ y := fun hy => ne_of_none h1 hy
        refine ⟨_, rfl, Nat.zero_le _, fun y hy => ?_⟩
        have s2 := s1.trans (Same.new hy (o := .lst []))
        have h2 : (upd H' y (.lst [])) f = some (.lst (iv u)) := by rw [upd_ne (nf hy)]; exact h1
        refine ⟨_, _, dp_ivL (SqL.of h2), dp_ivL (x := []) (SqL.of upd_same), shaped_ivL _, shaped_ivL _, ?_⟩
        rw [eqv_ivL]
        refine ⟨_, rfl, ?_⟩
        have big : (2000000 : Nat) < sizeLine := by decide
        have app : (u.getLast? ≠ some (-z)) → ∃ v3, [some (V.ref l), some (V.ref f), some (V.ref a), some (V.int z)] = [some (.ref l), some (.ref f), some (.ref a), v3] ∧ Same H (upd (upd H' y (.lst [])) f (.lst (iv u ++ [.int z]))) ∧ (upd (upd H' y (.lst [])) f (.lst (iv u ++ [.int z]))) f = some (.lst (iv (push u z))) := fun q => by
          refine ⟨_, rfl, same_upd s2 hf, ?_⟩
          rw [upd_same, FG.push_ne q]; simp [iv]
        refine ite2 (fun c1 => ?_) (fun c1 => ?_)
        · have ne := ne_yes c1
          obtain ⟨u0, b, eu⟩ : ∃ u0 b, u = u0 ++ [b] := ⟨_, _, (List.dropLast_concat_getLast ne).symm⟩
          subst eu
          have hat : atI (iv (u0 ++ [b])) (-1) = some (V.int b) := by
            rw [iv, List.map_append]; exact atI_last _ _
          refine ⟨_, rfl, _, rfl, f, _, _, _, rfl, rfl, SqL.of h2, hat, _, rfl, _, rfl, rfl, _, rfl, ?_⟩
          refine ite2 (fun c2 => ?_) (fun c2 => ?_)
          · have eb : b = -z := vint.mp (of_decide_eq_true c2)
            refine ⟨_, rfl, .inl ⟨rfl, _, SqL.of h2⟩, f, _, .int b, rfl, rfl, h2, by simp [iv], ?_⟩
            refine ⟨_, rfl, same_upd s2 hf, ?_⟩
            rw [upd_same, ej, FG.push_eq (by simp [eb])]
            simp [iv]
          · have eb : b ≠ -z := fun q => c2 (decide_eq_true (vint.mpr q))
            refine ⟨_, rfl, .inl ⟨rfl, _, SqL.of h2⟩, _, rfl, f, _, _, rfl, rfl, h2, by rw [iv_len]; omega, ?_⟩
            have := app (by simpa using eb)
            rw [← ej] at this
            exact this
        · have e0 : u = [] := ne_no c1
          refine iteF ?_
          refine ⟨_, rfl, .inl ⟨rfl, _, SqL.of h2⟩, _, rfl, f, _, _, rfl, rfl, h2, by rw [iv_len]; omega, ?_⟩
          have := app (by rw [e0]; simp)
          rw [← ej] at this
          exact this
      · rintro σ H' ⟨v3, rfl, s1, h1⟩
        refine ⟨_, _, rfl, s1, ?_⟩
        rw [ef, h1]
        rw [iv_len, List.take_length]
        unfold FG.net
        rw [List.foldl_append]
    · rintro σ H' ⟨v2, v3, rfl, s1, h1⟩
      rw [rv_len, hD.1, List.take_length] at h1
      refine ⟨_, rfl, f, _, rfl, .inl (SqL.of h1), ?_⟩
      exact fun a H2 s2 h2 => k a H2 (s1.trans s2) h2
end
end W43
namespace W43
open PySem PySem.Spec PyProof.Rows L2 OW
open C8 (Cal Met Mak pe_c pe_mt pe_mt0 pe_mk)
open FG (Red net undo push total readOn Dl)
section
variable {P : Program} {w : World} {K : PySem.W.Frag} {mg : Str → Option Value} {base : Heap}
theorem iv_undo (x : List Int) : iv (undo x) = ((iv x).reverse).map (fun v => match v with | .int i => .int (-i) | v => v) := by
  unfold FG.undo iv
  rw [← List.map_reverse, ← List.map_reverse, List.map_map, List.map_map]
  rfl
theorem undo_eq (x : List Int) : undo x = x.reverse.map fun a => -a := by
  unfold FG.undo; rw [List.map_reverse]
def sp_law_undone (K : PySem.W.Frag) : Sp := fun vs H Q _ => ∃ (a : Addr) (x : List Int), vs = [.ref a] ∧ SqT K H a (iv x) ∧ x.length ≤ 1000000 ∧ RetT K (iv (undo x)) H Q
theorem c_law_undone (T : Tx K mg) : Cal P w K mg base 1 "_law_undone" (sp_law_undone K) [] := by
  obtain ⟨fd, F⟩ := T.d_law_undone
  refine calD F T.g_law_undone (fun _ _ _ _ _ _ us hl => match us, hl with | [_], _ => rfl) sc_law_undone (fun vs H Q E h => ?_) (fun cdv A outer s H vs Q E hr h => ?_)
  · obtain ⟨a, x, rfl, _⟩ := h
    rfl
  · obtain ⟨a, x, rfl, ha, hl, k⟩ := h
    refine ⟨_, (pss_one (ps_ret (pe_callTy call_tupleR rfl T.z_tuple (by decide +kernel) (pa_cons (pe_lc (own := [("act", 1)]) rfl sc_law_undone.nd (pi_tup (pe_revT (pv 0))) (blkOk_by (own := [("act", 1)]) (N := ["x", "act"]) (sc := defScope s_law_undone) (by decide +kernel)) (fun _ _ _ _ _ => (pg_name (i := 1) sc_law_undone.nd rfl (Or.inl rfl))) (fun _ _ _ _ _ => pts_nil) (fun _ _ _ _ _ => (pe_un un_neg (pv 1)))) pa_nil)))), ?_⟩
    refine ⟨_, rfl, a, _, rfl, ha, fun p hp => ?_⟩
    have er : (iv x).reverse = iv x.reverse := by simp [iv]
    rw [er]
    refine ⟨p, rfl, ⟨_, SqT.of upd_same⟩, fun D hD => ?_⟩
    have big : (1000000 : Nat) < sizeLine := by decide
    refine lc_tup (K := K) (a := p) (xs := iv x.reverse) (fun i H2 => H2 = upd (upd H p (.tup (iv x.reverse))) D (.lst (iv ((x.reverse.take i).map fun z => -z)))) rfl (fun i H2 _ e => e ▸ (Same.new hD).tup (SqT.of upd_same)) (fun i v H2 hx e => ?_) (fun H2 e => ?_)
    · subst e
      obtain ⟨z, hz, rfl⟩ := iv_at hx
      refine ⟨rfl, ?_⟩
      refine ⟨_, rfl, _, rfl, _, upd_same, by rw [iv_len, List.length_map, List.length_take, List.length_reverse]; omega, ?_⟩
      rw [upd_twice, List.take_add_one, hz]
      simp [iv]
    · subst e
      rw [iv_len, List.take_length, ← undo_eq]
      refine ⟨D, _, rfl, .inl (SqL.of upd_same), fun b H3 s3 h3 => k b H3 (((Same.new hp).trans (Same.new hD)).trans s3) h3⟩
def sp_law_power (K : PySem.W.Frag) : Sp := fun vs H Q _ => ∃ (a : Addr) (x : List Int) (n : Int), vs = [.ref a, .int n] ∧ SqT K H a (iv x) ∧ 0 < n ∧ n ≤ 100 ∧ x.length ≤ 1000 ∧ RetT K (iv (net (List.replicate n.toNat x).flatten)) H Q
theorem c_law_power (T : Tx K mg) : Cal P w K mg base 2 "_law_power" (sp_law_power K) [] := by
  have c_law_join := c_law_join (P := P) (w := w) (base := base) T
  have c_law_undone := c_law_undone (P := P) (w := w) (base := base) T
  obtain ⟨fd, F⟩ := T.d_law_power
  refine calD F T.g_law_power (fun _ _ _ _ _ _ us hl => match us, hl with | [_, _], _ => rfl) sc_law_power (fun vs H Q E h => ?_) (fun cdv A outer s H vs Q E hr h => ?_)
  · obtain ⟨a, x, n, rfl, _⟩ := h
    rfl
  · obtain ⟨a, x, n, rfl, ha, h0, h1, hl, k⟩ := h
    refine ⟨_, (pss_one (ps_ret (pe_c c_law_join hr (by decide) rfl (pa_cons (pe_op op_rep (pe_lst (pa_cons (pe_ifExp (pt_cmpR op_gt (pv 1) pe_int (nomark _)) (pv 0) (pe_c c_law_undone hr (by decide) rfl (pa_cons (pv 0) pa_nil))) pa_nil)) (pe_callB call_abs rfl T.z_abs (by decide +kernel) (pa_cons (pv 1) pa_nil))) pa_nil)))), ?_⟩
    refine ⟨_, rfl, _, _, rfl, rfl, _, rfl, ?_⟩
    refine ite2 (fun _ => ?_) (fun c => absurd (decide_eq_true h0) c)
    refine ⟨_, rfl, by show 1 ≤ sizeLine; decide, fun l hl0 => ?_⟩
    refine ⟨_, rfl, _, rfl, ?_⟩
    have en : (if n < 0 then -n else n) = n := by split <;> omega
    have small : [V.ref a].length * n.toNat ≤ sizeLine := by
      show 1 * n.toNat ≤ sizeLine
      have : (100 : Nat) ≤ sizeLine := by decide
      omega
    refine ⟨l, _, _, rfl, rfl, upd_same, by rw [en]; omega, by rw [en]; omega, by rw [en]; exact small, fun q hq => ?_⟩
    rw [en]
    have e1 : (List.replicate n.toNat [V.ref a]).flatten = rv (List.replicate n.toNat a) := by
      simp only [rv, List.map_replicate]
      induction n.toNat with
      | zero => rfl
      | succ m ih => rw [List.replicate_succ, List.flatten_cons, ih]; rfl
    rw [e1]
    have s2 : Same H (upd (upd H l (.lst [.ref a])) q (.lst (rv (List.replicate n.toNat a)))) := (Same.new hl0).trans (Same.new hq)
    refine ⟨q, List.replicate n.toNat a, List.replicate n.toNat x, rfl, SqL.of upd_same, ⟨by simp, fun i b hb => ?_⟩, ?_, fun b H3 s3 h3 => k b H3 (s2.trans s3) h3⟩
    · obtain ⟨hi, hb⟩ := List.getElem?_eq_some_iff.mp hb
      have hi' : i < n.toNat := by simpa using hi
      have : b = a := by simpa using hb.symm
      subst this
      exact ⟨x, by simp [hi'], s2.tup ha⟩
    · have : total (List.replicate n.toNat x) = n.toNat * x.length := by simp [FG.total, List.map_replicate, List.sum_replicate_nat]
      rw [this]
      have : n.toNat * x.length ≤ 100 * 1000 := Nat.mul_le_mul (by omega) hl
      omega
def sp_law_signs (K : PySem.W.Frag) : Sp := fun vs H Q _ => ∃ (acts : Nat), vs = [.int (acts : Nat)] ∧ acts ≤ 1000 ∧ ∀ p H', Same H H' → H p = none → H' p = some (.lst (iv (FG.signs acts))) → Q (.ref p) H'
theorem c_law_signs (T : Tx K mg) : Cal P w K mg base 1 "_law_signs" (sp_law_signs K) [] := by
  obtain ⟨fd, F⟩ := T.d_law_signs
  refine calD F T.g_law_signs (fun _ _ _ _ _ _ us hl => match us, hl with | [_], _ => rfl) sc_law_signs (fun vs H Q E h => ?_) (fun cdv A outer s H vs Q E hr h => ?_)
  · obtain ⟨acts, rfl, _⟩ := h
    rfl
  · obtain ⟨acts, rfl, ha, k⟩ := h
    refine ⟨_, (pss_cons (ps_set (i := 1) sc_law_signs.nd rfl (Or.inl rfl) (pe_lst pa_nil))
      (pss_cons (ps_for PassesOwn.never rfl (pi_range2 rfl T.z_range (pa_cons pe_int (pa_cons (pe_op op_add (pv 0) pe_int) pa_nil))) (pg_name (i := 2) sc_law_signs.nd rfl (Or.inl rfl)) (pss_one (ps_set (i := 1) sc_law_signs.nd rfl (Or.inl rfl) (pe_op op_cat (pv 1) (pe_lst (pa_cons (pv 2) (pa_cons (pe_un un_neg (pv 2)) pa_nil)))))))
      (pss_one (ps_ret (pv 1))))), ?_⟩
    refine ⟨Nat.zero_le _, fun p hp => ?_⟩
    refine ⟨_, rfl, _, _, rfl, rfl, 1, (acts : Int) + 1, rfl, ⟨by decide, by decide, by omega, by omega⟩, ?_⟩
    have en : (((acts : Int) + 1) - 1).toNat = acts := by omega
    have big : (3000 : Nat) ≤ sizeLine := by decide
    refine for_range (lo := 1) (n := (((acts : Int) + 1) - 1).toNat) (fun i σ H' => ∃ f v, σ = [some (.int (acts : Nat)), some (.ref f), v] ∧ Same H H' ∧ H f = none ∧ H' f = some (.lst (iv (FG.signs i)))) ⟨_, _, rfl, Same.new hp, hp, upd_same⟩ ?_ ?_
    · rintro i σ H' hi ⟨f, v, rfl, s1, n1, h1⟩
      rw [en] at hi
      refine ⟨_, rfl, _, rfl, _, rfl, _, rfl, by show 2 ≤ sizeLine; decide, fun q hq => ?_⟩
      have nq : f ≠ q := ne_of_none h1 hq
      refine ⟨f, q, _, _, rfl, rfl, by rw [upd_ne nq]; exact h1, upd_same, by rw [iv_len, signs_len]; show 2 * i + 2 ≤ sizeLine; omega, fun g hg => ?_⟩
      obtain ⟨g1, g2⟩ := none_of_upd hg
      refine ⟨g, _, rfl, (s1.trans (Same.new hq)).trans (Same.new hg), s1.free g1, ?_⟩
      have e1 : (1 : Int) + i = (i : Int) + 1 := by omega
      rw [upd_same, signs_succ, e1]
      simp [iv]
    · rintro σ H' ⟨f, v, rfl, s1, n1, h1⟩
      rw [en] at h1
      exact ⟨_, rfl, k _ _ s1 n1 h1⟩
def sp_law_read (K : PySem.W.Frag) : Sp := fun vs H Q _ => ∃ (a b : Addr) (acts n p : Nat) (x : List Int) (d : Dl), vs = [.ref a, .int (p : Nat), .ref b] ∧ GrAt K H a acts n d ∧ Inn n d ∧ SqT K H b (iv x) ∧ p < n ∧
  (∀ s ∈ x, s ∈ FG.signs acts) ∧ ∀ c' H', Same H H' → CosAt K H' c' (readOn d p x).1 (readOn d p x).2 → Q (.ref c') H'
theorem c_law_read (T : Tx K mg) : Cal P w K mg base 1 "_law_read" (sp_law_read K) [] := by
  obtain ⟨fd, F⟩ := T.d_law_read
  refine calD F T.g_law_read (fun _ _ _ _ _ _ us hl => match us, hl with | [_, _, _], _ => rfl) sc_law_read (fun vs H Q E h => ?_) (fun cdv A outer s H vs Q E hr h => ?_)
  · obtain ⟨a, b, acts, n, p, x, d, rfl, _⟩ := h
    rfl
  · obtain ⟨a, b, acts, n, p, x, d, rfl, hG, hI, hb, hp, sx, k⟩ := h
    refine ⟨_, (pss_cons (ps_for PassesOwn.never rfl (pi_enumT rfl T.z_enumerate (pa_cons (pv 2) pa_nil)) (pg_tup rfl (pgs_cons (pg_name (i := 3) sc_law_read.nd rfl (Or.inl rfl)) (pgs_cons (pg_name (i := 4) sc_law_read.nd rfl (Or.inl rfl)) pgs_nil))) (pss_cons (ps_set (i := 5) sc_law_read.nd rfl (Or.inl rfl) (pe_ix ix_tup (pe_ix ix_tup (pe_ix ix_tup (pv 0) (pv 1) (fun _ _ => rfl)) (pe_op op_sub (pe_callB call_abs rfl T.z_abs (by decide +kernel) (pa_cons (pv 4) pa_nil)) pe_int) (fun _ _ => rfl)) (pe_callTy call_int1 rfl T.z_int (by decide +kernel) (pa_cons (pe_cmpR op_lt (pv 4) pe_int (nomark _)) pa_nil)) (fun _ _ => rfl)))
      (pss_cons (ps_if (pt_cmpR op_isN (pv 5) pe_non (nomark _)) (pss_one (ps_ret (pe_tup (pa_cons (pv 1) (pa_cons (pe_slice sl_tupR (pv 2) (po_some (pv 3)) po_none) pa_nil))))) pss_nil)
      (pss_one (ps_set (i := 1) sc_law_read.nd rfl (Or.inl rfl) (pv 5))))))
      (pss_one (ps_ret (pe_tup (pa_cons (pv 1) (pa_cons (pe_tup pa_nil) pa_nil)))))), ?_⟩
    refine ⟨_, rfl, b, iv x, rfl, hb, ?_⟩
    refine for_it (walk_enumT (xs := iv x)) (fun i σ H' => ∃ (q : Nat) (v3 v4 v5 : Option V), σ = [some (.ref a), some (.int (q : Nat)), some (.ref b), v3, v4, v5] ∧ Same H H' ∧ q < n ∧ readOn d q (x.drop i) = readOn d p x) ⟨p, _, _, _, rfl, fun _ _ e => e, hp, rfl⟩ (fun i σ H' _ ⟨_, _, _, _, _, s1, _⟩ => s1.tup hb) ?_ ?_
    · rintro i v σ H' H'' hi ⟨q, v3, v4, v5, rfl, s1, hq, he⟩ ⟨T', u1, u2, rfl, hT, rfl, hu1, hu2⟩
      rw [iv_len] at hi
      obtain ⟨z, hz, rfl⟩ := iv_at hu2
      cases hu1
      have s2 := s1.trans (Same.new hT (o := .tup [.int (i : Nat), .int z]))
      have ed : x.drop i = z :: x.drop (i + 1) := by
        obtain ⟨h1, h2⟩ := List.getElem?_eq_some_iff.mp hz
        rw [List.drop_eq_getElem_cons h1, h2]
      have hzs := FG.mem_signs.mp (sx z (List.mem_of_getElem? hz))
      obtain ⟨rows, prs, r, g, h1, h2, h3, h4, h5⟩ := (hG.go s2).at hq (j := z.natAbs - 1) (by omega)
      have e1 : (if z < 0 then -z else z) - 1 = ((z.natAbs - 1 : Nat) : Int) := by split <;> omega
      refine ⟨T', _, rfl, SqT.of upd_same, rfl, _, _, rfl, _, _, rfl, rfl, ?_⟩
      refine ⟨_, rfl, _, rfl, a, _, _, _, rfl, rfl, h1, atI_nat h2, _, rfl, _, rfl, _, _, rfl, rfl, r, _, _, _, rfl, rfl, h3, at_of e1 h4, ?_⟩
      have hat : atI [ov (d q (((z.natAbs - 1 : Nat) : Int) + 1)), ov (d q (-(((z.natAbs - 1 : Nat) : Int) + 1)))] (if decide (z < 0) = true then 1 else 0) = some (ov (d q z)) := by
        by_cases neg : z < 0
        · have e2 : -(((z.natAbs - 1 : Nat) : Int) + 1) = z := by omega
          rw [e2, if_pos (decide_eq_true neg)]
          exact at_of (j := 1) rfl rfl
        · have e2 : (((z.natAbs - 1 : Nat) : Int) + 1) = z := by omega
          rw [e2, if_neg (fun y => neg (of_decide_eq_true y))]
          exact at_of (j := 0) rfl rfl
      refine ⟨_, rfl, _, _, rfl, rfl, .inr ⟨_, rfl, g, _, _, _, rfl, rfl, h5, hat, ?_⟩⟩
      refine ⟨_, rfl, rfl, _, rfl, ?_⟩
      have hb2 := s2.tup hb
      cases e : d q z with
      | none =>
        refine iteT ?_
        refine ⟨_, rfl, _, rfl, _, rfl, _, rfl, b, _, rfl, hb2, fun f H1 s3 h3 => ?_⟩
        refine ⟨by show 2 ≤ sizeLine; decide, fun c hc => ?_⟩
        have ec : cutV (iv x) (some (i : Int)) none = iv (x.drop i) := by
          unfold cutV
          have : HT.sIx (iv x).length 0 (some (i : Int)) = i := by
            rw [HT.sIx_nat, iv_len]; omega
          rw [this, HT.sIx_none]
          rw [List.take_of_length_le (by simp)]
          exact (List.map_drop ..).symm
        rw [ec] at h3
        refine k c _ ((s2.trans s3).trans (Same.new hc)) ?_
        have er : readOn d p x = (q, x.drop i) := by rw [← he, ed]; simp [readOn, e]
        rw [er]
        exact ⟨f, SqT.of upd_same, (Same.new hc).tup h3⟩
      | some q' =>
        refine iteF ?_
        refine ⟨_, rfl, q', _, _, _, rfl, s2, hI q z q' hq e, ?_⟩
        rw [← he, ed]; simp [readOn, e]
    · rintro σ H' ⟨q, v3, v4, v5, rfl, s1, hq, he⟩
      rw [iv_len, List.drop_length] at he
      refine ⟨_, rfl, Nat.zero_le _, fun e he1 => ⟨by show 2 ≤ sizeLine; decide, fun f hf => ?_⟩⟩
      refine k f _ ((s1.trans (Same.new he1)).trans (Same.new hf)) ?_
      rw [← he]
      exact ⟨e, SqT.of upd_same, (Same.new hf).tup (SqT.of upd_same)⟩
end
end W43
namespace W43
open PySem PySem.Spec PyProof.Rows L2 OW
open C8 (Cal Met Mak pe_c pe_mt pe_mt0 pe_mk)
open FG (Red net undo push total readOn Dl)
section
variable {P : Program} {w : World} {K : PySem.W.Frag} {mg : Str → Option Value} {base : Heap}
theorem DoAt.snoc {H : Hp} {as : List Addr} {D : List FG.W} {a : Addr} {d : FG.W} (h : DoAt K H as D) (ha : SqT K H a (iv d)) : DoAt K H (as ++ [a]) (D ++ [d]) := by
  refine ⟨by simp [h.1], fun i x e => ?_⟩
  rw [List.getElem?_append] at e
  by_cases c : i < as.length
  · rw [if_pos c] at e
    obtain ⟨d', h1, h2⟩ := h.2 i x e
    exact ⟨d', by rw [List.getElem?_append, if_pos (by rw [← h.1]; exact c)]; exact h1, h2⟩
  · rw [if_neg c] at e
    have ek : i - as.length = 0 := by
      obtain ⟨h1, _⟩ := List.getElem?_eq_some_iff.mp e
      simp at h1; omega
    rw [ek] at e
    simp at e
    subst e
    have : i = as.length := by
      omega
    exact ⟨d, by rw [List.getElem?_append, if_neg (by rw [← h.1]; exact c), ← h.1, ek]; rfl, ha⟩
theorem DoAt.sv {H H' : Hp} {p c : Addr} {as : List Addr} {D : List FG.W} (h : DoAt K H as D) (hS : SrAt H p c) (s : Sv p c H H') : DoAt K H' as D :=
  ⟨h.1, fun i a e => let ⟨d, h1, h2⟩ := h.2 i a e; ⟨d, h1, s.tup hS h2⟩⟩
theorem DoAt.upd {H : Hp} {a : Addr} {o u : HO} {as : List Addr} {D : List FG.W} (h : DoAt K H as D) (ha : H a = some o) (n1 : ∀ xs, o ≠ .tup xs) (n2 : ∀ b xs, o ≠ .frz b (.tup xs)) : DoAt K (L2.upd H a u) as D :=
  ⟨h.1, fun i x e => let ⟨d, h1, h2⟩ := h.2 i x e; ⟨d, h1, sqt_upd h2 ha (n1 _) (fun b => n2 b _)⟩⟩
theorem DoAt.nil {H : Hp} : DoAt K H [] [] := ⟨rfl, fun i a e => by simp at e⟩
theorem flat_one (zs : List Int) : (zs.map fun z => [z]).flatten = zs := by
  induction zs with
  | nil => rfl
  | cons z zs ih => simp [ih]
theorem total_one (zs : List Int) : total (zs.map fun z => [z]) = zs.length := by
  induction zs with
  | nil => rfl
  | cons z zs ih => simp [FG.total] at ih ⊢; omega
def sp_law_doing (K : PySem.W.Frag) : Sp := fun vs H Q _ => ∃ (p c : Addr) (acts most : Nat), vs = [.ref p, .int (acts : Nat), .int (most : Nat)] ∧ SrAt H p c ∧ 0 < acts ∧ acts ≤ 1000 ∧ most ≤ 1000 ∧
  ∀ (a : Addr) (x : List Int) H', Sv p c H H' → SrAt H' p c → SqT K H' a (iv x) → Red x → (∀ s ∈ x, s ∈ FG.signs acts) → x.length ≤ most → Q (.ref a) H'
theorem c_law_doing (T : Tx K mg) : Cal P w K mg base 2 "_law_doing" (sp_law_doing K) [] := by
  have c_law_pick := c_law_pick (P := P) (w := w) (base := base) T
  have c_law_join := c_law_join (P := P) (w := w) (base := base) T
  obtain ⟨fd, F⟩ := T.d_law_doing
  refine calD F T.g_law_doing (fun _ _ _ _ _ _ us hl => match us, hl with | [_, _, _], _ => rfl) sc_law_doing (fun vs H Q E h => ?_) (fun cdv A outer s H vs Q E hr h => ?_)
  · obtain ⟨p, c, acts, most, rfl, _⟩ := h
    rfl
  · obtain ⟨p, c, acts, most, rfl, hS, h0, h1, h2, k⟩ := h
    refine ⟨_, (pss_cons (ps_setLc (i := 3) (own := [("k", 4)]) rfl sc_law_doing.nd rfl rfl (sw_true rfl rfl rfl (by decide +kernel)) (pi_range1 rfl T.z_range (pa_cons (pe_c c_law_pick hr (by decide) rfl (pa_cons (pv 0) (pa_cons (pe_op op_add (pv 2) pe_int) pa_nil))) pa_nil)) (blkOk_by (own := [("k", 4)]) (N := ["source", "acts", "most", "some", "k", "act"]) (sc := defScope s_law_doing) (by decide +kernel)) (fun _ _ _ _ _ => (pg_name (i := 4) sc_law_doing.nd rfl (Or.inl rfl))) (fun _ _ _ _ _ => pts_nil) (fun _ _ _ _ _ => (pe_op op_add pe_int (pe_c c_law_pick hr (by decide) rfl (pa_cons (pv 0) (pa_cons (pv 1) pa_nil))))))
      (pss_one (ps_ret (pe_c c_law_join hr (by decide) rfl (pa_cons (pe_lc (own := [("act", 5)]) rfl sc_law_doing.nd (pi_list (pv 3)) (blkOk_by (own := [("act", 5)]) (N := ["source", "acts", "most", "some", "k", "act"]) (sc := defScope s_law_doing) (by decide +kernel)) (fun _ _ _ _ _ => (pg_name (i := 5) sc_law_doing.nd rfl (Or.inl rfl))) (fun _ _ _ _ _ => pts_nil) (fun _ _ _ _ _ => (pe_tup (pa_cons (pe_ifExp (pt_cmpR op_eq (pe_c c_law_pick hr (by decide) rfl (pa_cons (pv 0) (pa_cons pe_int pa_nil))) pe_int (nomark _)) (pv 5) (pe_un un_neg (pv 5))) pa_nil)))) pa_nil))))), ?_⟩
    have big : (1000000 : Nat) < sizeLine := by decide
    refine ⟨_, rfl, _, rfl, _, _, rfl, rfl, p, c, _, rfl, hS, by omega, by omega, fun r H1 s1 S1 r0 r1 => ?_⟩
    refine ⟨r, rfl, by omega, by omega, fun D hD => ?_⟩
    obtain ⟨g3, g4⟩ := S1.fresh hD
    refine lc_range (lo := 0) (n := r.toNat) (fun j H' => ∃ ys : List Int, H' D = some (.lst (iv ys)) ∧ ys.length = j ∧ (∀ y ∈ ys, 1 ≤ y ∧ y ≤ acts) ∧ Sv p c H1 H' ∧ SrAt H' p c) ⟨[], upd_same, rfl, fun _ z => (nomatch z), Sv.refl.upd (.inl hD), S1.go (Same.new hD)⟩ ?_ ?_
    · rintro j H' hj ⟨ys, q1, q2, q3, q4, q5⟩
      refine ⟨rfl, ?_⟩
      refine ⟨_, rfl, _, rfl, p, c, _, rfl, q5, by omega, by omega, fun x H2 s2 S2 x0 x1 => ?_⟩
      have w2 := s2 D _ g3 g4 q1
      refine ⟨_, _, rfl, rfl, _, w2, by rw [iv_len]; omega, ys ++ [1 + x], by rw [upd_same]; simp [iv], by simp [q2], fun y hy => ?_, (q4.trans s2).upd (.inl hD), S2.side w2 (fun _ z => by cases z) g4⟩
      rcases List.mem_append.mp hy with z | z
      · exact q3 y z
      · simp at z; subst z; omega
    · rintro H' ⟨ys, q1, q2, q3, q4, q5⟩
      have tot := s1.trans q4
      refine ⟨_, rfl, D, rfl, ⟨_, SqL.of q1⟩, fun D2 hD2 => ?_⟩
      obtain ⟨g5, g6⟩ := q5.fresh hD2
      have nD : D ≠ D2 := ne_of_none q1 hD2
      refine lc_list (K := K) (a := D) (xs := iv ys) (D := D2) (fun j H2 => ∃ (ts : List Addr) (zs : List Int), H2 D2 = some (.lst (rv ts)) ∧ DoAt K H2 ts (zs.map fun z => [z]) ∧ zs.length = j ∧ (∀ z ∈ zs, z ∈ FG.signs acts) ∧ H2 D = some (.lst (iv ys)) ∧ Sv p c H' H2 ∧ SrAt H2 p c) ⟨[], [], upd_same, DoAt.nil, rfl, fun _ z => (nomatch z), by rw [upd_ne nD]; exact q1, Sv.refl.upd (.inl hD2), q5.go (Same.new hD2)⟩ (fun j H2 _ ⟨ts, zs, u1, u2, u3, u4, u5, u6⟩ => SqL.of u5) ?_ ?_
      · rintro j v H2 hv ⟨ts, zs, u1, u2, u3, u4, u5, u6, u7⟩
        obtain ⟨z, hz, rfl⟩ := iv_at hv
        have zb := q3 z (List.mem_of_getElem? hz)
        refine ⟨rfl, ?_⟩
        have fin : ∀ y H3, Sv p c H2 H3 → SrAt H3 p c → y ∈ FG.signs acts → [V.int y].length ≤ sizeLine ∧ ∀ t, H3 t = none → ∃ acc, (L2.upd H3 t (.tup [.int y])) D2 = some (.lst acc) ∧ acc.length < sizeLine ∧ ∃ (ts : List Addr) (zs : List Int), (L2.upd (L2.upd H3 t (.tup [.int y])) D2 (.lst (acc ++ [.ref t]))) D2 = some (.lst (rv ts)) ∧ DoAt K (L2.upd (L2.upd H3 t (.tup [.int y])) D2 (.lst (acc ++ [.ref t]))) ts (zs.map fun z => [z]) ∧ zs.length = j + 1 ∧ (∀ z ∈ zs, z ∈ FG.signs acts) ∧ (L2.upd (L2.upd H3 t (.tup [.int y])) D2 (.lst (acc ++ [.ref t]))) D = some (.lst (iv ys)) ∧ Sv p c H' (L2.upd (L2.upd H3 t (.tup [.int y])) D2 (.lst (acc ++ [.ref t]))) ∧ SrAt (L2.upd (L2.upd H3 t (.tup [.int y])) D2 (.lst (acc ++ [.ref t]))) p c := fun y H3 s3 S3 hy => by
          refine ⟨by show 1 ≤ sizeLine; decide, fun t ht => ?_⟩
          have w1 := s3 D2 _ g5 g6 u1
          have w2 := s3 D _ g3 g4 u5
          have n1 : D2 ≠ t := ne_of_none w1 ht
          have n2 : D ≠ t := ne_of_none w2 ht
          have w3 : (L2.upd H3 t (.tup [.int y])) D2 = some (.lst (rv ts)) := by rw [upd_ne n1]; exact w1
          have DA := ((u2.sv u7 s3).go (Same.new ht (o := .tup [.int y]))).snoc (a := t) (d := [y]) (SqT.of upd_same)
          refine ⟨_, w3, by rw [rv_len, u2.1, List.length_map, u3]; have := (List.getElem?_eq_some_iff.mp hz).1; omega, ts ++ [t], zs ++ [y], by rw [upd_same]; simp [rv], ?_, by simp [u3], fun q hq => ?_, by rw [upd_ne nD, upd_ne n2]; exact w2, ((u6.trans s3).trans (Sv.of (Same.new ht))).upd (.inl hD2), (S3.go (Same.new ht)).side w3 (fun _ z => by cases z) g6⟩
          · rw [List.map_append]
            exact DA.upd w3 (fun _ z => by cases z) (fun _ _ z => by cases z)
          · rcases List.mem_append.mp hq with z | z
            · exact u4 q z
            · simp at z; subst z; exact hy
        refine ⟨_, rfl, p, c, 2, rfl, u7, by decide, by decide, fun x H3 s3 S3 x0 x1 => ?_⟩
        refine ⟨rfl, _, rfl, ?_⟩
        refine ite2 (fun _ => ?_) (fun _ => ?_)
        · refine ⟨_, rfl, ?_⟩
          exact fin z H3 s3 S3 (FG.mem_signs.mpr ⟨by omega, by omega⟩)
        · refine ⟨_, rfl, _, rfl, ?_⟩
          exact fin (-z) H3 s3 S3 (FG.mem_signs.mpr ⟨by omega, by omega⟩)
      · rintro H2 ⟨ts, zs, u1, u2, u3, u4, u5, u6, u7⟩
        rw [iv_len] at u3
        refine ⟨D2, ts, _, rfl, SqL.of u1, u2, by rw [total_one]; omega, fun b H3 s3 h3 => ?_⟩
        rw [flat_one] at h3
        refine k b (net zs) H3 ((tot.trans u6).trans (Sv.of s3)) (u7.go s3) h3 (FG.red_net _) (fun s hs => u4 s (FG.net_sub _ hs)) ?_
        have := FG.net_len zs
        omega
end
end W43
namespace W43
open PySem PySem.Spec PyProof.Rows L2 OW
open C8 (Cal Met Mak pe_c pe_mt pe_mt0 pe_mk)
open FG (Red net undo push total readOn Dl Fix InvD)
/-! ### doings as data -/
def doD (D : List FG.W) : List PyData := D.map fun d => .tuple (ivD d)
theorem canLay_do : ∀ D : List FG.W, PyData.canLayAll0 (doD D) = true
  | [] => rfl
  | d :: D => by
    have h1 := canLay_do D
    have h2 := canLay_iv d
    simp [doD, PyData.canLayAll0, PyData.canLay0] at h1 ⊢
    exact ⟨h2, h1⟩
theorem depth_do : ∀ D : List FG.W, PyData.depthAll (doD D) ≤ 2
  | [] => by simp [doD, PyData.depthAll]
  | d :: D => by
    have h1 := depth_do D
    have h2 := depthAll_iv d
    simp [doD, PyData.depthAll, PyData.depth] at h1 ⊢; omega
theorem shaped_do (D : List FG.W) : SeqAt.shaped (.list (doD D)) = true := by
  have h1 := canLay_do D
  have h2 := depth_do D
  simp [SeqAt.shaped, PyData.canLay0, PyData.depth, h1]
  omega
theorem eqv_do (D : List FG.W) : PyData.eqv (.list (doD D)) (.list (doD [])) = decide (D = []) := by
  cases D with
  | nil => rfl
  | cons a l => rfl
section
variable {P : Program} {w : World} {K : PySem.W.Frag} {mg : Str → Option Value} {base : Heap}
theorem DoAt.cons {H : Hp} {a : Addr} {as : List Addr} {D : List FG.W} (h : DoAt K H (a :: as) D) : ∃ d D', D = d :: D' ∧ SqT K H a (iv d) ∧ DoAt K H as D' := by
  cases D with
  | nil => have := h.1; simp at this
  | cons d D =>
    obtain ⟨d', h1, h2⟩ := h.2 0 a rfl
    simp at h1; subst h1
    exact ⟨d, D, rfl, h2, by simpa using h.1, fun i x e => h.2 (i + 1) x e⟩
theorem DoAt.mk' {H : Hp} {a : Addr} {as : List Addr} {d : FG.W} {D : List FG.W} (h : DoAt K H as D) (ha : SqT K H a (iv d)) : DoAt K H (a :: as) (d :: D) :=
  ⟨by simp [h.1], fun i x e => by
    cases i with
    | zero => simp at e; subst e; exact ⟨d, rfl, ha⟩
    | succ i => exact h.2 i x e⟩
theorem DoAt.dp {H : Hp} : ∀ {as : List Addr} {D : List FG.W}, DoAt K H as D → DpAll K H (rv as) (doD D)
  | [], D, h => by
    have : D = [] := List.length_eq_zero_iff.mp (by rw [← h.1]; rfl)
    subst this; exact .nil
  | a :: as, D, h => by
    obtain ⟨d, D', rfl, h1, h2⟩ := h.cons
    exact .cons (dp_iv h1) h2.dp
theorem DoAt.perm {H : Hp} {as as' : List Addr} (pm : as'.Perm as) : ∀ {D : List FG.W}, DoAt K H as D → ∃ D', D'.Perm D ∧ DoAt K H as' D' := by
  induction pm with
  | nil => exact fun {D} h => ⟨D, .refl _, h⟩
  | cons a _ ih =>
    intro D h
    obtain ⟨d, D1, rfl, h1, h2⟩ := h.cons
    obtain ⟨D', q1, q2⟩ := ih h2
    exact ⟨d :: D', q1.cons d, q2.mk' h1⟩
  | swap a b l =>
    intro D h
    obtain ⟨d, D1, rfl, h1, h2⟩ := h.cons
    obtain ⟨d2, D2, rfl, h3, h4⟩ := h2.cons
    exact ⟨d2 :: d :: D2, .swap .., (h4.mk' h1).mk' h3⟩
  | trans _ _ i1 i2 =>
    intro D h
    obtain ⟨D1, q1, q2⟩ := i2 h
    obtain ⟨D2, q3, q4⟩ := i1 q2
    exact ⟨D2, q3.trans q1, q4⟩
theorem DoAt.set {H : Hp} {as : List Addr} {D : List FG.W} {a : Addr} {d : FG.W} (h : DoAt K H as D) (ha : SqT K H a (iv d)) (i : Nat) : DoAt K H (as.set i a) (D.set i d) := by
  refine ⟨by simp [h.1], fun j x e => ?_⟩
  rw [List.getElem?_set] at e
  rw [List.getElem?_set]
  by_cases c : i = j
  · subst c
    rw [if_pos rfl] at e ⊢
    by_cases l : i < as.length
    · rw [if_pos l] at e
      rw [if_pos (by rw [← h.1]; exact l)]
      cases e
      exact ⟨d, rfl, ha⟩
    · rw [if_neg l] at e; cases e
  · rw [if_neg c] at e ⊢
    exact h.2 j x e
theorem DoAt.app {H : Hp} {as as2 : List Addr} {D D2 : List FG.W} (h : DoAt K H as D) (h2 : DoAt K H as2 D2) : DoAt K H (as ++ as2) (D ++ D2) := by
  refine ⟨by simp [h.1, h2.1], fun i x e => ?_⟩
  rw [List.getElem?_append] at e
  by_cases c : i < as.length
  · rw [if_pos c] at e
    obtain ⟨d', q1, q2⟩ := h.2 i x e
    exact ⟨d', by rw [List.getElem?_append, if_pos (by rw [← h.1]; exact c)]; exact q1, q2⟩
  · rw [if_neg c] at e
    obtain ⟨d', q1, q2⟩ := h2.2 _ x e
    exact ⟨d', by rw [List.getElem?_append, if_neg (by rw [← h.1]; exact c), ← h.1]; exact q1, q2⟩
theorem total_le {D : List FG.W} {b : Nat} (h : ∀ d ∈ D, d.length ≤ b) : total D ≤ D.length * b := by
  induction D with
  | nil => simp [FG.total]
  | cons d D ih =>
    have h1 := h d (by simp)
    have h2 := ih fun x hx => h x (by simp [hx])
    have h3 : (d :: D).length * b = D.length * b + b := by simp [Nat.succ_mul]
    have h4 : total (d :: D) = d.length + total D := by simp [FG.total]
    omega
/-! ### product -/
def sp_law_product (K : PySem.W.Frag) : Sp := fun vs H Q _ => ∃ (p c l : Addr) (as : List Addr) (D : List FG.W), vs = [.ref p, .ref l] ∧ SrAt H p c ∧ H l = some (.lst (rv as)) ∧ l ≠ c ∧ DoAt K H as D ∧ D.length ≤ 100 ∧ (∀ d ∈ D, d.length ≤ 10000) ∧
  ∀ (a : Addr) (ys : List FG.W) H', Sv p c H H' → SrAt H' p c → SqT K H' a (iv (net ys.flatten)) → (∀ y ∈ ys, ∃ d ∈ D, y = d ∨ y = undo d) → ys.length ≤ 5 → Q (.ref a) H'
theorem undo_len (x : FG.W) : (undo x).length = x.length := by simp [FG.undo]
theorem c_law_product (T : Tx K mg) : Cal P w K mg base 3 "_law_product" (sp_law_product K) [] := by
  have c_law_pick := c_law_pick (P := P) (w := w) (base := base) T
  have c_law_of := c_law_of (P := P) (w := w) (base := base) T
  have c_law_undone := c_law_undone (P := P) (w := w) (base := base) T
  have c_law_join := c_law_join (P := P) (w := w) (base := base) T
  obtain ⟨fd, F⟩ := T.d_law_product
  refine calD F T.g_law_product (fun _ _ _ _ _ _ us hl => match us, hl with | [_, _], _ => rfl) sc_law_product (fun vs H Q E h => ?_) (fun cdv A outer s H vs Q E hr h => ?_)
  · obtain ⟨p, c, l, as, D, rfl, _⟩ := h
    rfl
  · obtain ⟨p, c, l, as, D, rfl, hS, hl, nc, hD, b1, b2, k⟩ := h
    refine ⟨_, (pss_cons (ps_set (i := 2) sc_law_product.nd rfl (Or.inl rfl) (pe_lst pa_nil))
      (pss_cons (ps_for PassesOwn.never rfl (pi_range1 rfl T.z_range (pa_cons (pe_ifExp (pt_cmpR (op_neD hr.units) (pv 1) (pe_lst pa_nil) (nomark _)) (pe_c c_law_pick hr (by decide) rfl (pa_cons (pv 0) (pa_cons pe_int pa_nil))) pe_int) pa_nil)) (pg_name (i := 3) sc_law_product.nd rfl (Or.inl rfl)) (pss_cons (ps_set (i := 4) sc_law_product.nd rfl (Or.inl rfl) (pe_c c_law_of hr (by decide) rfl (pa_cons (pv 0) (pa_cons (pv 1) pa_nil))))
      (pss_one (ps_expr (pe_bm PySem.F.plainAttrs_list PySem.F.slot_list_append PySem.F.type_list_append mt_append (pv 2) (pa_cons (pe_ifExp (pt_cmpR op_eq (pe_c c_law_pick hr (by decide) rfl (pa_cons (pv 0) (pa_cons pe_int pa_nil))) pe_int (nomark _)) (pv 4) (pe_c c_law_undone hr (by decide) rfl (pa_cons (pv 4) pa_nil))) pa_nil))))))
      (pss_one (ps_ret (pe_c c_law_join hr (by decide) rfl (pa_cons (pv 2) pa_nil)))))), ?_⟩
    refine ⟨Nat.zero_le _, fun f hf => ?_⟩
    obtain ⟨f1, f2⟩ := hS.fresh hf
    have np : l ≠ p := fun z => by
      obtain ⟨_, _, _, _, h2, _⟩ := hS
      rw [z, h2] at hl; cases hl
    have nf : l ≠ f := ne_of_none hl hf
    have S1 := hS.go (Same.new hf (o := .lst []))
    have hl1 : (upd H f (.lst [])) l = some (.lst (rv as)) := by rw [upd_ne nf]; exact hl
    have hD1 := hD.go (Same.new hf (o := .lst []))
    refine ⟨_, rfl, Nat.zero_le _, fun y hy => ?_⟩
    have s2 : Same (upd H f (.lst [])) (upd (upd H f (.lst [])) y (.lst [])) := Same.new hy
    have hf2 : (upd (upd H f (.lst [])) y (.lst [])) f = some (.lst []) := s2 _ _ upd_same
    have hl2 := s2 _ _ hl1
    refine ⟨_, _, .lst (SqL.of hl2) (hD1.go s2).dp, .lst (ds := doD []) (SqL.of upd_same) .nil, shaped_do _, shaped_do _, ?_⟩
    rw [eqv_do]
    have S2 := S1.go s2
    have big : (1000000 : Nat) < sizeLine := by decide
    refine ⟨_, rfl, ?_⟩
    have v2 : Sv p c H (upd (upd H f (.lst [])) y (.lst [])) := Sv.of ((Same.new hf).trans s2)
    refine ite2 (fun c1 => ?_) (fun c1 => ?_)
    · have ne := ne_yes c1
      refine ⟨_, rfl, p, c, 6, rfl, S2, by decide, by decide, fun r H3 s3 S3 r0 r1 => ?_⟩
      have v3 := v2.trans s3
      have hf3 := s3 f _ f1 f2 hf2
      have hl3 := s3 l _ np nc hl2
      have z0 : D = [] → r = 0 := fun z => absurd z ne
      refine ⟨r, rfl, by omega, by omega, ?_⟩
      refine for_range (lo := 0) (n := r.toNat) (fun j σ H' => ∃ (ts : List Addr) (ys : List FG.W) (w3 w4 : Option V), σ = [some (.ref p), some (.ref l), some (.ref f), w3, w4] ∧ H' f = some (.lst (rv ts)) ∧ DoAt K H' ts ys ∧ ys.length = j ∧ (∀ y ∈ ys, ∃ d ∈ D, y = d ∨ y = undo d) ∧ H' l = some (.lst (rv as)) ∧ Sv p c H H' ∧ SrAt H' p c)
        ⟨[], [], _, _, rfl, hf3, DoAt.nil, rfl, fun _ z => (nomatch z), hl3, v3, S3⟩ ?_ ?_
      · rintro j σ H' hj ⟨ts, ys, w3, w4, rfl, q1, q2, q3, q4, q5, q6, q7⟩
        have ne : D ≠ [] := fun z => by have := z0 z; omega
        have la : 0 < as.length := by rw [hD.1]; exact List.length_pos_iff.mpr ne
        refine ⟨_, rfl, _, rfl, p, c, l, as, rfl, q7, q5, nc, la, by rw [hD.1]; omega, fun i a H4 ha s4 S4 => ?_⟩
        obtain ⟨d, hd, hT⟩ := (hD.sv hS (q6.trans s4)).2 i a ha
        have dm : d ∈ D := List.mem_of_getElem? hd
        have g1 := s4 f _ f1 f2 q1
        have g5 := s4 l _ np nc q5
        have g2 := q2.sv q7 s4
        refine ⟨_, rfl, .inl ⟨rfl, _, SqL.of g1⟩, ?_⟩
        have fin : ∀ (b : Addr) (x : FG.W) (H5 : Hp), Sv p c H4 H5 → SrAt H5 p c → SqT K H5 b (iv x) → (x = d ∨ x = undo d) → H5 f = some (.lst (rv ts)) ∧ (rv ts).length < sizeLine ∧ ∃ (ts' : List Addr) (ys : List FG.W) (w3 w4 : Option V), [some (V.ref p), some (V.ref l), some (V.ref f), some (V.int (0 + (j : Nat))), some (V.ref a)] = [some (.ref p), some (.ref l), some (.ref f), w3, w4] ∧ (upd H5 f (.lst (rv ts ++ [V.ref b]))) f = some (.lst (rv ts')) ∧ DoAt K (upd H5 f (.lst (rv ts ++ [V.ref b]))) ts' ys ∧ ys.length = j + 1 ∧ (∀ y ∈ ys, ∃ d ∈ D, y = d ∨ y = undo d) ∧ (upd H5 f (.lst (rv ts ++ [V.ref b]))) l = some (.lst (rv as)) ∧ Sv p c H (upd H5 f (.lst (rv ts ++ [V.ref b]))) ∧ SrAt (upd H5 f (.lst (rv ts ++ [V.ref b]))) p c := fun b x H5 s5 S5 hb hx => by
          have k1 := s5 f _ f1 f2 g1
          have k2 := s5 l _ np nc g5
          refine ⟨k1, by rw [rv_len, q2.1]; omega, ts ++ [b], ys ++ [x], _, _, rfl, by rw [upd_same]; simp [rv], ((g2.sv S4 s5).snoc hb).upd k1 (fun _ z => by cases z) (fun _ _ z => by cases z), by simp [q3], fun y hy => ?_, by rw [upd_ne nf]; exact k2, ((q6.trans s4).trans s5).upd (.inl hf), S5.side k1 (fun _ z => by cases z) f2⟩
          rcases List.mem_append.mp hy with z | z
          · exact q4 y z
          · simp at z; subst z; exact ⟨d, dm, hx⟩
        refine ⟨_, rfl, p, c, 2, rfl, S4, by decide, by decide, fun x H5 s5 S5 x0 x1 => ?_⟩
        have hT5 := s5.tup S4 hT
        refine ⟨rfl, _, rfl, ?_⟩
        refine ite2 (fun _ => ?_) (fun _ => ?_)
        · obtain ⟨m1, m2, m3⟩ := fin a d H5 s5 S5 hT5 (.inl rfl)
          exact ⟨_, rfl, f, _, _, rfl, rfl, m1, m2, m3⟩
        · have := b2 d dm
          refine ⟨_, rfl, a, d, rfl, hT5, by omega, fun b H6 s6 h6 => ?_⟩
          obtain ⟨m1, m2, m3⟩ := fin b (undo d) H6 (s5.trans (Sv.of s6)) (S5.go s6) h6 (.inr rfl)
          exact ⟨f, _, _, rfl, rfl, m1, m2, m3⟩
      · rintro σ H' ⟨ts, ys, w3, w4, rfl, q1, q2, q3, q4, q5, q6, q7⟩
        have tl : total ys ≤ 5 * 10000 := by
          have h1 := total_le (D := ys) (b := 10000) (fun y hy => by
            obtain ⟨d, hd, z | z⟩ := q4 y hy
            · rw [z]; exact b2 d hd
            · rw [z, undo_len]; exact b2 d hd)
          have : ys.length * 10000 ≤ 5 * 10000 := Nat.mul_le_mul_right _ (by omega)
          omega
        refine ⟨_, rfl, f, ts, ys, rfl, SqL.of q1, q2, by omega, fun b H6 s6 h6 => ?_⟩
        exact k b ys H6 (q6.trans (Sv.of s6)) (q7.go s6) h6 q4 (by omega)
    · have e0 : D = [] := ne_no c1
      refine ⟨0, rfl, by decide, by decide, ?_⟩
      let r : Int := 0
      have r0 : 0 ≤ r := Int.le_refl 0
      have r1 : r < 6 := by show (0 : Int) < 6; decide
      have z0 : D = [] → r = 0 := fun _ => rfl
      have v3 := v2
      have hf3 := hf2
      have hl3 := hl2
      have S3 := S2
      refine for_range (lo := 0) (n := r.toNat) (fun j σ H' => ∃ (ts : List Addr) (ys : List FG.W) (w3 w4 : Option V), σ = [some (.ref p), some (.ref l), some (.ref f), w3, w4] ∧ H' f = some (.lst (rv ts)) ∧ DoAt K H' ts ys ∧ ys.length = j ∧ (∀ y ∈ ys, ∃ d ∈ D, y = d ∨ y = undo d) ∧ H' l = some (.lst (rv as)) ∧ Sv p c H H' ∧ SrAt H' p c)
        ⟨[], [], _, _, rfl, hf3, DoAt.nil, rfl, fun _ z => (nomatch z), hl3, v3, S3⟩ ?_ ?_
      · rintro j σ H' hj ⟨ts, ys, w3, w4, rfl, q1, q2, q3, q4, q5, q6, q7⟩
        have ne : D ≠ [] := fun z => by have := z0 z; omega
        have la : 0 < as.length := by rw [hD.1]; exact List.length_pos_iff.mpr ne
        refine ⟨_, rfl, _, rfl, p, c, l, as, rfl, q7, q5, nc, la, by rw [hD.1]; omega, fun i a H4 ha s4 S4 => ?_⟩
        obtain ⟨d, hd, hT⟩ := (hD.sv hS (q6.trans s4)).2 i a ha
        have dm : d ∈ D := List.mem_of_getElem? hd
        have g1 := s4 f _ f1 f2 q1
        have g5 := s4 l _ np nc q5
        have g2 := q2.sv q7 s4
        refine ⟨_, rfl, .inl ⟨rfl, _, SqL.of g1⟩, ?_⟩
        have fin : ∀ (b : Addr) (x : FG.W) (H5 : Hp), Sv p c H4 H5 → SrAt H5 p c → SqT K H5 b (iv x) → (x = d ∨ x = undo d) → H5 f = some (.lst (rv ts)) ∧ (rv ts).length < sizeLine ∧ ∃ (ts' : List Addr) (ys : List FG.W) (w3 w4 : Option V), [some (V.ref p), some (V.ref l), some (V.ref f), some (V.int (0 + (j : Nat))), some (V.ref a)] = [some (.ref p), some (.ref l), some (.ref f), w3, w4] ∧ (upd H5 f (.lst (rv ts ++ [V.ref b]))) f = some (.lst (rv ts')) ∧ DoAt K (upd H5 f (.lst (rv ts ++ [V.ref b]))) ts' ys ∧ ys.length = j + 1 ∧ (∀ y ∈ ys, ∃ d ∈ D, y = d ∨ y = undo d) ∧ (upd H5 f (.lst (rv ts ++ [V.ref b]))) l = some (.lst (rv as)) ∧ Sv p c H (upd H5 f (.lst (rv ts ++ [V.ref b]))) ∧ SrAt (upd H5 f (.lst (rv ts ++ [V.ref b]))) p c := fun b x H5 s5 S5 hb hx => by
          have k1 := s5 f _ f1 f2 g1
          have k2 := s5 l _ np nc g5
          refine ⟨k1, by rw [rv_len, q2.1]; omega, ts ++ [b], ys ++ [x], _, _, rfl, by rw [upd_same]; simp [rv], ((g2.sv S4 s5).snoc hb).upd k1 (fun _ z => by cases z) (fun _ _ z => by cases z), by simp [q3], fun y hy => ?_, by rw [upd_ne nf]; exact k2, ((q6.trans s4).trans s5).upd (.inl hf), S5.side k1 (fun _ z => by cases z) f2⟩
          rcases List.mem_append.mp hy with z | z
          · exact q4 y z
          · simp at z; subst z; exact ⟨d, dm, hx⟩
        refine ⟨_, rfl, p, c, 2, rfl, S4, by decide, by decide, fun x H5 s5 S5 x0 x1 => ?_⟩
        have hT5 := s5.tup S4 hT
        refine ⟨rfl, _, rfl, ?_⟩
        refine ite2 (fun _ => ?_) (fun _ => ?_)
        · obtain ⟨m1, m2, m3⟩ := fin a d H5 s5 S5 hT5 (.inl rfl)
          exact ⟨_, rfl, f, _, _, rfl, rfl, m1, m2, m3⟩
        · have := b2 d dm
          refine ⟨_, rfl, a, d, rfl, hT5, by omega, fun b H6 s6 h6 => ?_⟩
          obtain ⟨m1, m2, m3⟩ := fin b (undo d) H6 (s5.trans (Sv.of s6)) (S5.go s6) h6 (.inr rfl)
          exact ⟨f, _, _, rfl, rfl, m1, m2, m3⟩
      · rintro σ H' ⟨ts, ys, w3, w4, rfl, q1, q2, q3, q4, q5, q6, q7⟩
        have tl : total ys ≤ 5 * 10000 := by
          have h1 := total_le (D := ys) (b := 10000) (fun y hy => by
            obtain ⟨d, hd, z | z⟩ := q4 y hy
            · rw [z]; exact b2 d hd
            · rw [z, undo_len]; exact b2 d hd)
          have : ys.length * 10000 ≤ 5 * 10000 := Nat.mul_le_mul_right _ (by omega)
          omega
        refine ⟨_, rfl, f, ts, ys, rfl, SqL.of q1, q2, by omega, fun b H6 s6 h6 => ?_⟩
        exact k b ys H6 (q6.trans (Sv.of s6)) (q7.go s6) h6 q4 (by omega)
end
end W43
namespace W43
open PySem PySem.Spec PyProof.Rows L2 OW
open C8 (Cal Met Mak pe_c pe_mt pe_mt0 pe_mk)
open FG (Red net undo push total readOn Dl Fix InvD)
theorem signs_undo {acts : Nat} {x : FG.W} (h : ∀ s ∈ x, s ∈ FG.signs acts) : ∀ s ∈ undo x, s ∈ FG.signs acts := fun s hs => by
  rw [undo_eq] at hs
  obtain ⟨t, ht, rfl⟩ := List.mem_map.mp hs
  have := h t (List.mem_reverse.mp ht)
  rw [FG.mem_signs] at this ⊢
  rwa [Int.natAbs_neg]
def Bd (j : Nat) : Nat := 20 * 2 ^ j
theorem Bd_succ (j : Nat) : Bd (j + 1) = 2 * Bd j := by unfold Bd; rw [Nat.pow_succ]; omega
theorem Bd_ge (j : Nat) : 20 ≤ Bd j := by
  induction j with
  | zero => decide
  | succ j ih => rw [Bd_succ]; omega
theorem Bd_le {j : Nat} (h : j ≤ 4) : Bd j ≤ 320 := by
  match j, h with
  | 0, _ => decide
  | 1, _ => decide
  | 2, _ => decide
  | 3, _ => decide
  | 4, _ => decide
section
variable {P : Program} {w : World} {K : PySem.W.Frag} {mg : Str → Option Value} {base : Heap}
theorem DoAt.three {H : Hp} {a b c : Addr} {x y z : FG.W} (ha : SqT K H a (iv x)) (hb : SqT K H b (iv y)) (hc : SqT K H c (iv z)) : DoAt K H [a, b, c] [x, y, z] := ((DoAt.nil.mk' hc).mk' hb).mk' ha
theorem DoAt.two {H : Hp} {a b : Addr} {x y : FG.W} (ha : SqT K H a (iv x)) (hb : SqT K H b (iv y)) : DoAt K H [a, b] [x, y] := (DoAt.nil.mk' hb).mk' ha
def sp_law_doings (K : PySem.W.Frag) : Sp := fun vs H Q _ => ∃ (p c : Addr) (acts : Nat), vs = [.ref p, .int (acts : Nat)] ∧ SrAt H p c ∧ 0 < acts ∧ acts ≤ 1000 ∧
  ∀ (l : Addr) (as : List Addr) (D : List FG.W) H', Sv p c H H' → SrAt H' p c → H' l = some (.lst (rv as)) → H l = none → DoAt K H' as D → D.length ≤ 4 → (∀ d ∈ D, Red d ∧ (∀ s ∈ d, s ∈ FG.signs acts) ∧ d.length ≤ 400) → Q (.ref l) H'
theorem c_law_doings (T : Tx K mg) : Cal P w K mg base 3 "_law_doings" (sp_law_doings K) [] := by
  have c_law_pick := c_law_pick (P := P) (w := w) (base := base) T
  have c_law_doing := c_law_doing (P := P) (w := w) (base := base) T
  have c_law_power := c_law_power (P := P) (w := w) (base := base) T
  have c_law_undone := c_law_undone (P := P) (w := w) (base := base) T
  have c_law_join := c_law_join (P := P) (w := w) (base := base) T
  have c_law_of := c_law_of (P := P) (w := w) (base := base) T
  obtain ⟨fd, F⟩ := T.d_law_doings
  refine calD F T.g_law_doings (fun _ _ _ _ _ _ us hl => match us, hl with | [_, _], _ => rfl) sc_law_doings (fun vs H Q E h => ?_) (fun cdv A outer s H vs Q E hr h => ?_)
  · obtain ⟨p, c, acts, rfl, _⟩ := h
    rfl
  · obtain ⟨p, c, acts, rfl, hS, h0, h1, k⟩ := h
    refine ⟨_, (pss_cons (ps_set (i := 2) sc_law_doings.nd rfl (Or.inl rfl) (pe_lst pa_nil))
      (pss_cons (ps_for PassesOwn.never rfl (pi_range1 rfl T.z_range (pa_cons (pe_c c_law_pick hr (by decide) rfl (pa_cons (pv 0) (pa_cons pe_int pa_nil))) pa_nil)) (pg_name (i := 3) sc_law_doings.nd rfl (Or.inl rfl)) (pss_cons (ps_par (i := 4) (j := 5) rfl sc_law_doings.nd rfl rfl (by decide) rfl rfl (pa_cons (pe_c c_law_doing hr (by decide) rfl (pa_cons (pv 0) (pa_cons (pv 1) (pa_cons pe_int pa_nil)))) (pa_cons (pe_c c_law_pick hr (by decide) rfl (pa_cons (pv 0) (pa_cons pe_int pa_nil))) pa_nil)) (by rfl))
      (pss_cons (ps_if (pt_cmpR op_eq (pv 5) pe_int (nomark _)) (pss_one (ps_set (i := 4) sc_law_doings.nd rfl (Or.inl rfl) (pe_c c_law_power hr (by decide) rfl (pa_cons (pv 4) (pa_cons (pe_op op_add pe_int (pe_c c_law_pick hr (by decide) rfl (pa_cons (pv 0) (pa_cons pe_int pa_nil)))) pa_nil))))) pss_nil)
      (pss_cons (ps_if (pt_cmpR op_eq (pv 5) pe_int (nomark _)) (pss_cons (ps_set (i := 6) sc_law_doings.nd rfl (Or.inl rfl) (pe_c c_law_doing hr (by decide) rfl (pa_cons (pv 0) (pa_cons (pv 1) (pa_cons pe_int pa_nil)))))
      (pss_one (ps_set (i := 4) sc_law_doings.nd rfl (Or.inl rfl) (pe_c c_law_join hr (by decide) rfl (pa_cons (pe_lst (pa_cons (pv 6) (pa_cons (pv 4) (pa_cons (pe_c c_law_undone hr (by decide) rfl (pa_cons (pv 6) pa_nil)) pa_nil)))) pa_nil))))) pss_nil)
      (pss_cons (ps_if (PW.pt (pw_and (pt_cmpR op_eq (pv 5) pe_int (nomark _)) (pw_and1 (pt_cmpR (op_neD hr.units) (pv 2) (pe_lst pa_nil) (nomark _))))) (pss_one (ps_set (i := 4) sc_law_doings.nd rfl (Or.inl rfl) (pe_c c_law_join hr (by decide) rfl (pa_cons (pe_lst (pa_cons (pe_c c_law_of hr (by decide) rfl (pa_cons (pv 0) (pa_cons (pv 2) pa_nil))) (pa_cons (pv 4) (pa_cons (pe_c c_law_of hr (by decide) rfl (pa_cons (pv 0) (pa_cons (pv 2) pa_nil))) pa_nil)))) pa_nil)))) pss_nil)
      (pss_one (ps_expr (pe_bm PySem.F.plainAttrs_list PySem.F.slot_list_append PySem.F.type_list_append mt_append (pv 2) (pa_cons (pv 4) pa_nil)))))))))
      (pss_one (ps_ret (pv 2))))), ?_⟩
    have big : (1000000 : Nat) < sizeLine := by decide
    refine ⟨Nat.zero_le _, fun f hf => ?_⟩
    obtain ⟨f1, f2⟩ := hS.fresh hf
    have S1 := hS.go (Same.new hf (o := .lst []))
    refine ⟨_, rfl, p, c, 5, rfl, S1, by decide, by decide, fun r H1 s1 S2 r0 r1 => ?_⟩
    refine ⟨r, rfl, by omega, by omega, ?_⟩
    refine for_range (lo := 0) (n := r.toNat) (fun j σ H' => ∃ (ts : List Addr) (D : List FG.W) (w3 w4 w5 w6 : Option V), σ = [some (.ref p), some (.int (acts : Nat)), some (.ref f), w3, w4, w5, w6] ∧ H' f = some (.lst (rv ts)) ∧ DoAt K H' ts D ∧ D.length = j ∧
      (∀ d ∈ D, Red d ∧ (∀ s ∈ d, s ∈ FG.signs acts) ∧ d.length + 5 ≤ Bd j) ∧ Sv p c H H' ∧ SrAt H' p c) ⟨[], [], _, _, _, _, rfl, s1 f _ f1 f2 upd_same, DoAt.nil, rfl, fun _ z => (nomatch z), (Sv.of (Same.new hf)).trans s1, S2⟩ ?_ ?_
    · rintro j σ H' hj ⟨ts, D, w3, w4, w5, w6, rfl, q1, q2, q3, q4, q5, q6⟩
      have bj := Bd_le (j := j) (by omega)
      have bs := Bd_succ j
      have bg := Bd_ge j
      refine ⟨_, rfl, _, rfl, p, c, acts, 5, rfl, q6, h0, h1, by decide, fun b x H3 s3 S3 hb rx sx lx => ?_⟩
      have f3 := s3 f _ f1 f2 q1
      have D3 := q2.sv q6 s3
      refine ⟨_, rfl, p, c, 4, rfl, S3, by decide, by decide, fun way H5 s4 S5 y0 y1 => ?_⟩
      have f5 := s4 f _ f1 f2 f3
      have D5 := D3.sv S3 s4
      have hb := s4.tup S3 hb
      have v5 := (q5.trans s3).trans s4
      refine ⟨_, _, rfl, ?_⟩
      refine ⟨_, rfl, rfl, _, rfl, ?_⟩
      refine ite2 (fun c3 => ?_) (fun c3 => ?_)
      · have e1 : way = 1 := vint.mp (of_decide_eq_true c3)
        refine ⟨_, rfl, _, rfl, p, c, 3, rfl, S5, by decide, by decide, fun t H6 s6 S6 t0 t1 => ?_⟩
        have f6 := s6 f _ f1 f2 f5
        have D6 := D5.sv S5 s6
        have hb6 := s6.tup S5 hb
        refine ⟨_, _, rfl, rfl, b, x, 1 + t, rfl, hb6, by omega, by omega, by omega, fun b H5 s10 hb => ?_⟩
        have f5 := s10 _ _ f6
        have D5 := D6.go s10
        have S5 := S6.go s10
        have v5 := (v5.trans s6).trans (Sv.of s10)
        have rx := FG.red_net (List.replicate (1 + t).toNat x).flatten
        have lx2 : (net (List.replicate (1 + t).toNat x).flatten).length + 5 ≤ Bd (j + 1) := by
          have h1 := FG.net_len (List.replicate (1 + t).toNat x).flatten
          have h2 : (List.replicate (1 + t).toNat x).flatten.length = (1 + t).toNat * x.length := by simp
          have h3 : (1 + t).toNat * x.length ≤ 3 * 5 := Nat.mul_le_mul (by omega) lx
          omega
        have lx := lx2
        have sx : ∀ s ∈ net (List.replicate (1 + t).toNat x).flatten, s ∈ FG.signs acts := fun s hs => by
          have := FG.net_sub _ hs
          rw [List.mem_flatten] at this
          obtain ⟨y, hy, hs⟩ := this
          rw [(List.mem_replicate.mp hy).2] at hs
          exact sx s hs
        have lxa : way ≠ 1 → (net (List.replicate (1 + t).toNat x).flatten).length ≤ 5 := fun z => absurd e1 z
        generalize net (List.replicate (1 + t).toNat x).flatten = x at *
        refine ⟨_, rfl, rfl, _, rfl, ?_⟩
        refine ite2 (fun c3 => ?_) (fun c3 => ?_)
        · have e2 : way = 2 := vint.mp (of_decide_eq_true c3)
          have lx5 : x.length ≤ 5 := lxa (by omega)
          refine ⟨_, rfl, _, rfl, p, c, acts, 3, rfl, S5, h0, h1, by decide, fun g xg H6 s6 S6 hg rg sg lg => ?_⟩
          have f6 := s6 f _ f1 f2 f5
          have D6 := D5.sv S5 s6
          have hb6 := s6.tup S5 hb
          refine ⟨_, rfl, _, rfl, _, rfl, g, xg, rfl, hg, by omega, fun u H7 s7 hu => ?_⟩
          refine ⟨by show 3 ≤ sizeLine; decide, fun q hq => ?_⟩
          have s9 : Same H7 (upd H7 q (.lst [.ref g, .ref b, .ref u])) := Same.new hq
          have ln : [xg, x, undo xg].flatten.length = xg.length + (x.length + xg.length) := by simp [undo_len]
          refine ⟨q, [g, b, u], [xg, x, undo xg], rfl, SqL.of upd_same, DoAt.three (s9.tup (s7.tup hg)) (s9.tup (s7.tup hb6)) (s9.tup hu), by rw [show total [xg, x, undo xg] = xg.length + (x.length + xg.length) by simp [FG.total, undo_len]]; omega, fun b H5 s10 hb => ?_⟩
          have f5 := s10 _ _ (s9 _ _ (s7 _ _ f6))
          have D5 := ((D6.go s7).go s9).go s10
          have S5 := ((S6.go s7).go s9).go s10
          have v5 := (v5.trans s6).trans (Sv.of ((s7.trans s9).trans s10))
          have rx := FG.red_net [xg, x, undo xg].flatten
          have lx : (net [xg, x, undo xg].flatten).length + 5 ≤ Bd (j + 1) := by
            have := FG.net_len [xg, x, undo xg].flatten
            omega
          have sx : ∀ s ∈ net [xg, x, undo xg].flatten, s ∈ FG.signs acts := fun s hs => by
            have := FG.net_sub _ hs
            simp at this
            rcases this with z | z | z
            · exact sg s z
            · exact sx s z
            · exact signs_undo sg s z
          have lx0 : way ≠ 1 → way ≠ 2 → (net [xg, x, undo xg].flatten).length ≤ 5 := fun _ z => absurd e2 z
          generalize net [xg, x, undo xg].flatten = x at *
          refine ⟨_, rfl, rfl, _, rfl, ?_⟩
          refine ite2 (fun c3 => ?_) (fun c3 => ?_)
          · have e3 : way = 3 := vint.mp (of_decide_eq_true c3)
            have lx5 : x.length ≤ 5 := lx0 (by omega) (by omega)
            refine ⟨_, rfl, Nat.zero_le _, fun y hy => ?_⟩
            have s6 : Same H5 (upd H5 y (.lst [])) := Same.new hy
            refine ⟨_, _, .lst (SqL.of (s6 _ _ f5)) (D5.go s6).dp, .lst (ds := doD []) (SqL.of upd_same) .nil, shaped_do _, shaped_do _, ?_⟩
            rw [eqv_do]
            refine ⟨_, rfl, ?_⟩
            have f5 := s6 _ _ f5
            have D5 := D5.go s6
            have S5 := S5.go s6
            have v5 := v5.trans (Sv.of s6)
            have hb := s6.tup hb
            generalize upd H5 y (.lst []) = H5 at *
            refine ite2 (fun c4 => ?_) (fun c4 => ?_)
            · have ne := ne_yes c4
              have la : 0 < ts.length := by rw [D5.1]; exact List.length_pos_iff.mpr ne
              refine ⟨_, rfl, _, rfl, p, c, f, ts, rfl, S5, f5, f2, la, by rw [D5.1]; omega, fun i1 a1 H6 ha1 s7 S6 => ?_⟩
              have f6 := s7 f _ f1 f2 f5
              have D6 := D5.sv S5 s7
              have hb6 := s7.tup S5 hb
              obtain ⟨d1, hd1, hT1⟩ := D6.2 i1 a1 ha1
              refine ⟨_, rfl, _, rfl, _, rfl, p, c, f, ts, rfl, S6, f6, f2, la, by rw [D5.1]; omega, fun i2 a2 H7 ha2 s8 S7 => ?_⟩
              have f7 := s8 f _ f1 f2 f6
              have D7 := D6.sv S6 s8
              have hb7 := s8.tup S6 hb6
              have hT1 := s8.tup S6 hT1
              obtain ⟨d2, hd2, hT2⟩ := D7.2 i2 a2 ha2
              refine ⟨by show 3 ≤ sizeLine; decide, fun q hq => ?_⟩
              have s9 : Same H7 (upd H7 q (.lst [.ref a1, .ref b, .ref a2])) := Same.new hq
              obtain ⟨m1, m2, m3⟩ := q4 d1 (List.mem_of_getElem? hd1)
              obtain ⟨m4, m5, m6⟩ := q4 d2 (List.mem_of_getElem? hd2)
              have ln : [d1, x, d2].flatten.length = d1.length + (x.length + d2.length) := by simp
              refine ⟨q, [a1, b, a2], [d1, x, d2], rfl, SqL.of upd_same, DoAt.three (s9.tup hT1) (s9.tup hb7) (s9.tup hT2), by rw [show total [d1, x, d2] = d1.length + (x.length + d2.length) by simp [FG.total]]; omega, fun b H5 s10 hb => ?_⟩
              have f5 := s10 _ _ (s9 _ _ f7)
              have D5 := (D7.go s9).go s10
              have S5 := (S7.go s9).go s10
              have v5 := ((v5.trans s7).trans s8).trans (Sv.of (s9.trans s10))
              have rx := FG.red_net [d1, x, d2].flatten
              have lx : (net [d1, x, d2].flatten).length + 5 ≤ Bd (j + 1) := by
                have := FG.net_len [d1, x, d2].flatten
                omega
              have sx : ∀ s ∈ net [d1, x, d2].flatten, s ∈ FG.signs acts := fun s hs => by
                have := FG.net_sub _ hs
                simp at this
                rcases this with z | z | z
                · exact m2 s z
                · exact sx s z
                · exact m5 s z
              generalize net [d1, x, d2].flatten = x at *
              refine ⟨_, rfl, .inl ⟨rfl, _, SqL.of f5⟩, _, rfl, f, _, _, rfl, rfl, f5, by rw [rv_len, D5.1]; omega, ?_⟩
              refine ⟨ts ++ [b], D ++ [x], _, _, _, _, rfl, by rw [upd_same]; simp [rv], (D5.snoc hb).upd f5 (fun _ z => by cases z) (fun _ _ z => by cases z), by simp [q3], fun d hd => ?_, v5.upd (.inl hf), S5.side f5 (fun _ z => by cases z) f2⟩
              rcases List.mem_append.mp hd with z | z
              · obtain ⟨y1, y2, y3⟩ := q4 d z
                exact ⟨y1, y2, by omega⟩
              · simp at z; subst z; exact ⟨rx, sx, lx⟩
            · refine ⟨_, rfl, .inl ⟨rfl, _, SqL.of f5⟩, _, rfl, f, _, _, rfl, rfl, f5, by rw [rv_len, D5.1]; omega, ?_⟩
              refine ⟨ts ++ [b], D ++ [x], _, _, _, _, rfl, by rw [upd_same]; simp [rv], (D5.snoc hb).upd f5 (fun _ z => by cases z) (fun _ _ z => by cases z), by simp [q3], fun d hd => ?_, v5.upd (.inl hf), S5.side f5 (fun _ z => by cases z) f2⟩
              rcases List.mem_append.mp hd with z | z
              · obtain ⟨y1, y2, y3⟩ := q4 d z
                exact ⟨y1, y2, by omega⟩
              · simp at z; subst z; exact ⟨rx, sx, lx⟩
          · refine iteF ?_
            refine ⟨_, rfl, .inl ⟨rfl, _, SqL.of f5⟩, _, rfl, f, _, _, rfl, rfl, f5, by rw [rv_len, D5.1]; omega, ?_⟩
            refine ⟨ts ++ [b], D ++ [x], _, _, _, _, rfl, by rw [upd_same]; simp [rv], (D5.snoc hb).upd f5 (fun _ z => by cases z) (fun _ _ z => by cases z), by simp [q3], fun d hd => ?_, v5.upd (.inl hf), S5.side f5 (fun _ z => by cases z) f2⟩
            rcases List.mem_append.mp hd with z | z
            · obtain ⟨y1, y2, y3⟩ := q4 d z
              exact ⟨y1, y2, by omega⟩
            · simp at z; subst z; exact ⟨rx, sx, lx⟩
        · have lx0 : way ≠ 1 → way ≠ 2 → x.length ≤ 5 := fun z _ => lxa z
          refine ⟨_, rfl, rfl, _, rfl, ?_⟩
          refine ite2 (fun c3 => ?_) (fun c3 => ?_)
          · have e3 : way = 3 := vint.mp (of_decide_eq_true c3)
            have lx5 : x.length ≤ 5 := lx0 (by omega) (by omega)
            refine ⟨_, rfl, Nat.zero_le _, fun y hy => ?_⟩
            have s6 : Same H5 (upd H5 y (.lst [])) := Same.new hy
            refine ⟨_, _, .lst (SqL.of (s6 _ _ f5)) (D5.go s6).dp, .lst (ds := doD []) (SqL.of upd_same) .nil, shaped_do _, shaped_do _, ?_⟩
            rw [eqv_do]
            refine ⟨_, rfl, ?_⟩
            have f5 := s6 _ _ f5
            have D5 := D5.go s6
            have S5 := S5.go s6
            have v5 := v5.trans (Sv.of s6)
            have hb := s6.tup hb
            generalize upd H5 y (.lst []) = H5 at *
            refine ite2 (fun c4 => ?_) (fun c4 => ?_)
            · have ne := ne_yes c4
              have la : 0 < ts.length := by rw [D5.1]; exact List.length_pos_iff.mpr ne
              refine ⟨_, rfl, _, rfl, p, c, f, ts, rfl, S5, f5, f2, la, by rw [D5.1]; omega, fun i1 a1 H6 ha1 s7 S6 => ?_⟩
              have f6 := s7 f _ f1 f2 f5
              have D6 := D5.sv S5 s7
              have hb6 := s7.tup S5 hb
              obtain ⟨d1, hd1, hT1⟩ := D6.2 i1 a1 ha1
              refine ⟨_, rfl, _, rfl, _, rfl, p, c, f, ts, rfl, S6, f6, f2, la, by rw [D5.1]; omega, fun i2 a2 H7 ha2 s8 S7 => ?_⟩
              have f7 := s8 f _ f1 f2 f6
              have D7 := D6.sv S6 s8
              have hb7 := s8.tup S6 hb6
              have hT1 := s8.tup S6 hT1
              obtain ⟨d2, hd2, hT2⟩ := D7.2 i2 a2 ha2
              refine ⟨by show 3 ≤ sizeLine; decide, fun q hq => ?_⟩
              have s9 : Same H7 (upd H7 q (.lst [.ref a1, .ref b, .ref a2])) := Same.new hq
              obtain ⟨m1, m2, m3⟩ := q4 d1 (List.mem_of_getElem? hd1)
              obtain ⟨m4, m5, m6⟩ := q4 d2 (List.mem_of_getElem? hd2)
              have ln : [d1, x, d2].flatten.length = d1.length + (x.length + d2.length) := by simp
              refine ⟨q, [a1, b, a2], [d1, x, d2], rfl, SqL.of upd_same, DoAt.three (s9.tup hT1) (s9.tup hb7) (s9.tup hT2), by rw [show total [d1, x, d2] = d1.length + (x.length + d2.length) by simp [FG.total]]; omega, fun b H5 s10 hb => ?_⟩
              have f5 := s10 _ _ (s9 _ _ f7)
              have D5 := (D7.go s9).go s10
              have S5 := (S7.go s9).go s10
              have v5 := ((v5.trans s7).trans s8).trans (Sv.of (s9.trans s10))
              have rx := FG.red_net [d1, x, d2].flatten
              have lx : (net [d1, x, d2].flatten).length + 5 ≤ Bd (j + 1) := by
                have := FG.net_len [d1, x, d2].flatten
                omega
              have sx : ∀ s ∈ net [d1, x, d2].flatten, s ∈ FG.signs acts := fun s hs => by
                have := FG.net_sub _ hs
                simp at this
                rcases this with z | z | z
                · exact m2 s z
                · exact sx s z
                · exact m5 s z
              generalize net [d1, x, d2].flatten = x at *
              refine ⟨_, rfl, .inl ⟨rfl, _, SqL.of f5⟩, _, rfl, f, _, _, rfl, rfl, f5, by rw [rv_len, D5.1]; omega, ?_⟩
              refine ⟨ts ++ [b], D ++ [x], _, _, _, _, rfl, by rw [upd_same]; simp [rv], (D5.snoc hb).upd f5 (fun _ z => by cases z) (fun _ _ z => by cases z), by simp [q3], fun d hd => ?_, v5.upd (.inl hf), S5.side f5 (fun _ z => by cases z) f2⟩
              rcases List.mem_append.mp hd with z | z
              · obtain ⟨y1, y2, y3⟩ := q4 d z
                exact ⟨y1, y2, by omega⟩
              · simp at z; subst z; exact ⟨rx, sx, lx⟩
            · refine ⟨_, rfl, .inl ⟨rfl, _, SqL.of f5⟩, _, rfl, f, _, _, rfl, rfl, f5, by rw [rv_len, D5.1]; omega, ?_⟩
              refine ⟨ts ++ [b], D ++ [x], _, _, _, _, rfl, by rw [upd_same]; simp [rv], (D5.snoc hb).upd f5 (fun _ z => by cases z) (fun _ _ z => by cases z), by simp [q3], fun d hd => ?_, v5.upd (.inl hf), S5.side f5 (fun _ z => by cases z) f2⟩
              rcases List.mem_append.mp hd with z | z
              · obtain ⟨y1, y2, y3⟩ := q4 d z
                exact ⟨y1, y2, by omega⟩
              · simp at z; subst z; exact ⟨rx, sx, lx⟩
          · refine iteF ?_
            refine ⟨_, rfl, .inl ⟨rfl, _, SqL.of f5⟩, _, rfl, f, _, _, rfl, rfl, f5, by rw [rv_len, D5.1]; omega, ?_⟩
            refine ⟨ts ++ [b], D ++ [x], _, _, _, _, rfl, by rw [upd_same]; simp [rv], (D5.snoc hb).upd f5 (fun _ z => by cases z) (fun _ _ z => by cases z), by simp [q3], fun d hd => ?_, v5.upd (.inl hf), S5.side f5 (fun _ z => by cases z) f2⟩
            rcases List.mem_append.mp hd with z | z
            · obtain ⟨y1, y2, y3⟩ := q4 d z
              exact ⟨y1, y2, by omega⟩
            · simp at z; subst z; exact ⟨rx, sx, lx⟩
      · have lxa : way ≠ 1 → x.length ≤ 5 := fun _ => lx
        have lx : x.length + 5 ≤ Bd (j + 1) := by omega
        refine ⟨_, rfl, rfl, _, rfl, ?_⟩
        refine ite2 (fun c3 => ?_) (fun c3 => ?_)
        · have e2 : way = 2 := vint.mp (of_decide_eq_true c3)
          have lx5 : x.length ≤ 5 := lxa (by omega)
          refine ⟨_, rfl, _, rfl, p, c, acts, 3, rfl, S5, h0, h1, by decide, fun g xg H6 s6 S6 hg rg sg lg => ?_⟩
          have f6 := s6 f _ f1 f2 f5
          have D6 := D5.sv S5 s6
          have hb6 := s6.tup S5 hb
          refine ⟨_, rfl, _, rfl, _, rfl, g, xg, rfl, hg, by omega, fun u H7 s7 hu => ?_⟩
          refine ⟨by show 3 ≤ sizeLine; decide, fun q hq => ?_⟩
          have s9 : Same H7 (upd H7 q (.lst [.ref g, .ref b, .ref u])) := Same.new hq
          have ln : [xg, x, undo xg].flatten.length = xg.length + (x.length + xg.length) := by simp [undo_len]
          refine ⟨q, [g, b, u], [xg, x, undo xg], rfl, SqL.of upd_same, DoAt.three (s9.tup (s7.tup hg)) (s9.tup (s7.tup hb6)) (s9.tup hu), by rw [show total [xg, x, undo xg] = xg.length + (x.length + xg.length) by simp [FG.total, undo_len]]; omega, fun b H5 s10 hb => ?_⟩
          have f5 := s10 _ _ (s9 _ _ (s7 _ _ f6))
          have D5 := ((D6.go s7).go s9).go s10
          have S5 := ((S6.go s7).go s9).go s10
          have v5 := (v5.trans s6).trans (Sv.of ((s7.trans s9).trans s10))
          have rx := FG.red_net [xg, x, undo xg].flatten
          have lx : (net [xg, x, undo xg].flatten).length + 5 ≤ Bd (j + 1) := by
            have := FG.net_len [xg, x, undo xg].flatten
            omega
          have sx : ∀ s ∈ net [xg, x, undo xg].flatten, s ∈ FG.signs acts := fun s hs => by
            have := FG.net_sub _ hs
            simp at this
            rcases this with z | z | z
            · exact sg s z
            · exact sx s z
            · exact signs_undo sg s z
          have lx0 : way ≠ 1 → way ≠ 2 → (net [xg, x, undo xg].flatten).length ≤ 5 := fun _ z => absurd e2 z
          generalize net [xg, x, undo xg].flatten = x at *
          refine ⟨_, rfl, rfl, _, rfl, ?_⟩
          refine ite2 (fun c3 => ?_) (fun c3 => ?_)
          · have e3 : way = 3 := vint.mp (of_decide_eq_true c3)
            have lx5 : x.length ≤ 5 := lx0 (by omega) (by omega)
            refine ⟨_, rfl, Nat.zero_le _, fun y hy => ?_⟩
            have s6 : Same H5 (upd H5 y (.lst [])) := Same.new hy
            refine ⟨_, _, .lst (SqL.of (s6 _ _ f5)) (D5.go s6).dp, .lst (ds := doD []) (SqL.of upd_same) .nil, shaped_do _, shaped_do _, ?_⟩
            rw [eqv_do]
            refine ⟨_, rfl, ?_⟩
            have f5 := s6 _ _ f5
            have D5 := D5.go s6
            have S5 := S5.go s6
            have v5 := v5.trans (Sv.of s6)
            have hb := s6.tup hb
            generalize upd H5 y (.lst []) = H5 at *
            refine ite2 (fun c4 => ?_) (fun c4 => ?_)
            · have ne := ne_yes c4
              have la : 0 < ts.length := by rw [D5.1]; exact List.length_pos_iff.mpr ne
              refine ⟨_, rfl, _, rfl, p, c, f, ts, rfl, S5, f5, f2, la, by rw [D5.1]; omega, fun i1 a1 H6 ha1 s7 S6 => ?_⟩
              have f6 := s7 f _ f1 f2 f5
              have D6 := D5.sv S5 s7
              have hb6 := s7.tup S5 hb
              obtain ⟨d1, hd1, hT1⟩ := D6.2 i1 a1 ha1
              refine ⟨_, rfl, _, rfl, _, rfl, p, c, f, ts, rfl, S6, f6, f2, la, by rw [D5.1]; omega, fun i2 a2 H7 ha2 s8 S7 => ?_⟩
              have f7 := s8 f _ f1 f2 f6
              have D7 := D6.sv S6 s8
              have hb7 := s8.tup S6 hb6
              have hT1 := s8.tup S6 hT1
              obtain ⟨d2, hd2, hT2⟩ := D7.2 i2 a2 ha2
              refine ⟨by show 3 ≤ sizeLine; decide, fun q hq => ?_⟩
              have s9 : Same H7 (upd H7 q (.lst [.ref a1, .ref b, .ref a2])) := Same.new hq
              obtain ⟨m1, m2, m3⟩ := q4 d1 (List.mem_of_getElem? hd1)
              obtain ⟨m4, m5, m6⟩ := q4 d2 (List.mem_of_getElem? hd2)
              have ln : [d1, x, d2].flatten.length = d1.length + (x.length + d2.length) := by simp
              refine ⟨q, [a1, b, a2], [d1, x, d2], rfl, SqL.of upd_same, DoAt.three (s9.tup hT1) (s9.tup hb7) (s9.tup hT2), by rw [show total [d1, x, d2] = d1.length + (x.length + d2.length) by simp [FG.total]]; omega, fun b H5 s10 hb => ?_⟩
              have f5 := s10 _ _ (s9 _ _ f7)
              have D5 := (D7.go s9).go s10
              have S5 := (S7.go s9).go s10
              have v5 := ((v5.trans s7).trans s8).trans (Sv.of (s9.trans s10))
              have rx := FG.red_net [d1, x, d2].flatten
              have lx : (net [d1, x, d2].flatten).length + 5 ≤ Bd (j + 1) := by
                have := FG.net_len [d1, x, d2].flatten
                omega
              have sx : ∀ s ∈ net [d1, x, d2].flatten, s ∈ FG.signs acts := fun s hs => by
                have := FG.net_sub _ hs
                simp at this
                rcases this with z | z | z
                · exact m2 s z
                · exact sx s z
                · exact m5 s z
              generalize net [d1, x, d2].flatten = x at *
              refine ⟨_, rfl, .inl ⟨rfl, _, SqL.of f5⟩, _, rfl, f, _, _, rfl, rfl, f5, by rw [rv_len, D5.1]; omega, ?_⟩
              refine ⟨ts ++ [b], D ++ [x], _, _, _, _, rfl, by rw [upd_same]; simp [rv], (D5.snoc hb).upd f5 (fun _ z => by cases z) (fun _ _ z => by cases z), by simp [q3], fun d hd => ?_, v5.upd (.inl hf), S5.side f5 (fun _ z => by cases z) f2⟩
              rcases List.mem_append.mp hd with z | z
              · obtain ⟨y1, y2, y3⟩ := q4 d z
                exact ⟨y1, y2, by omega⟩
              · simp at z; subst z; exact ⟨rx, sx, lx⟩
            · refine ⟨_, rfl, .inl ⟨rfl, _, SqL.of f5⟩, _, rfl, f, _, _, rfl, rfl, f5, by rw [rv_len, D5.1]; omega, ?_⟩
              refine ⟨ts ++ [b], D ++ [x], _, _, _, _, rfl, by rw [upd_same]; simp [rv], (D5.snoc hb).upd f5 (fun _ z => by cases z) (fun _ _ z => by cases z), by simp [q3], fun d hd => ?_, v5.upd (.inl hf), S5.side f5 (fun _ z => by cases z) f2⟩
              rcases List.mem_append.mp hd with z | z
              · obtain ⟨y1, y2, y3⟩ := q4 d z
                exact ⟨y1, y2, by omega⟩
              · simp at z; subst z; exact ⟨rx, sx, lx⟩
          · refine iteF ?_
            refine ⟨_, rfl, .inl ⟨rfl, _, SqL.of f5⟩, _, rfl, f, _, _, rfl, rfl, f5, by rw [rv_len, D5.1]; omega, ?_⟩
            refine ⟨ts ++ [b], D ++ [x], _, _, _, _, rfl, by rw [upd_same]; simp [rv], (D5.snoc hb).upd f5 (fun _ z => by cases z) (fun _ _ z => by cases z), by simp [q3], fun d hd => ?_, v5.upd (.inl hf), S5.side f5 (fun _ z => by cases z) f2⟩
            rcases List.mem_append.mp hd with z | z
            · obtain ⟨y1, y2, y3⟩ := q4 d z
              exact ⟨y1, y2, by omega⟩
            · simp at z; subst z; exact ⟨rx, sx, lx⟩
        · have lx0 : way ≠ 1 → way ≠ 2 → x.length ≤ 5 := fun z _ => lxa z
          refine ⟨_, rfl, rfl, _, rfl, ?_⟩
          refine ite2 (fun c3 => ?_) (fun c3 => ?_)
          · have e3 : way = 3 := vint.mp (of_decide_eq_true c3)
            have lx5 : x.length ≤ 5 := lx0 (by omega) (by omega)
            refine ⟨_, rfl, Nat.zero_le _, fun y hy => ?_⟩
            have s6 : Same H5 (upd H5 y (.lst [])) := Same.new hy
            refine ⟨_, _, .lst (SqL.of (s6 _ _ f5)) (D5.go s6).dp, .lst (ds := doD []) (SqL.of upd_same) .nil, shaped_do _, shaped_do _, ?_⟩
            rw [eqv_do]
            refine ⟨_, rfl, ?_⟩
            have f5 := s6 _ _ f5
            have D5 := D5.go s6
            have S5 := S5.go s6
            have v5 := v5.trans (Sv.of s6)
            have hb := s6.tup hb
            generalize upd H5 y (.lst []) = H5 at *
            refine ite2 (fun c4 => ?_) (fun c4 => ?_)
            · have ne := ne_yes c4
              have la : 0 < ts.length := by rw [D5.1]; exact List.length_pos_iff.mpr ne
              refine ⟨_, rfl, _, rfl, p, c, f, ts, rfl, S5, f5, f2, la, by rw [D5.1]; omega, fun i1 a1 H6 ha1 s7 S6 => ?_⟩
              have f6 := s7 f _ f1 f2 f5
              have D6 := D5.sv S5 s7
              have hb6 := s7.tup S5 hb
              obtain ⟨d1, hd1, hT1⟩ := D6.2 i1 a1 ha1
              refine ⟨_, rfl, _, rfl, _, rfl, p, c, f, ts, rfl, S6, f6, f2, la, by rw [D5.1]; omega, fun i2 a2 H7 ha2 s8 S7 => ?_⟩
              have f7 := s8 f _ f1 f2 f6
              have D7 := D6.sv S6 s8
              have hb7 := s8.tup S6 hb6
              have hT1 := s8.tup S6 hT1
              obtain ⟨d2, hd2, hT2⟩ := D7.2 i2 a2 ha2
              refine ⟨by show 3 ≤ sizeLine; decide, fun q hq => ?_⟩
              have s9 : Same H7 (upd H7 q (.lst [.ref a1, .ref b, .ref a2])) := Same.new hq
              obtain ⟨m1, m2, m3⟩ := q4 d1 (List.mem_of_getElem? hd1)
              obtain ⟨m4, m5, m6⟩ := q4 d2 (List.mem_of_getElem? hd2)
              have ln : [d1, x, d2].flatten.length = d1.length + (x.length + d2.length) := by simp
              refine ⟨q, [a1, b, a2], [d1, x, d2], rfl, SqL.of upd_same, DoAt.three (s9.tup hT1) (s9.tup hb7) (s9.tup hT2), by rw [show total [d1, x, d2] = d1.length + (x.length + d2.length) by simp [FG.total]]; omega, fun b H5 s10 hb => ?_⟩
              have f5 := s10 _ _ (s9 _ _ f7)
              have D5 := (D7.go s9).go s10
              have S5 := (S7.go s9).go s10
              have v5 := ((v5.trans s7).trans s8).trans (Sv.of (s9.trans s10))
              have rx := FG.red_net [d1, x, d2].flatten
              have lx : (net [d1, x, d2].flatten).length + 5 ≤ Bd (j + 1) := by
                have := FG.net_len [d1, x, d2].flatten
                omega
              have sx : ∀ s ∈ net [d1, x, d2].flatten, s ∈ FG.signs acts := fun s hs => by
                have := FG.net_sub _ hs
                simp at this
                rcases this with z | z | z
                · exact m2 s z
                · exact sx s z
                · exact m5 s z
              generalize net [d1, x, d2].flatten = x at *
              refine ⟨_, rfl, .inl ⟨rfl, _, SqL.of f5⟩, _, rfl, f, _, _, rfl, rfl, f5, by rw [rv_len, D5.1]; omega, ?_⟩
              refine ⟨ts ++ [b], D ++ [x], _, _, _, _, rfl, by rw [upd_same]; simp [rv], (D5.snoc hb).upd f5 (fun _ z => by cases z) (fun _ _ z => by cases z), by simp [q3], fun d hd => ?_, v5.upd (.inl hf), S5.side f5 (fun _ z => by cases z) f2⟩
              rcases List.mem_append.mp hd with z | z
              · obtain ⟨y1, y2, y3⟩ := q4 d z
                exact ⟨y1, y2, by omega⟩
              · simp at z; subst z; exact ⟨rx, sx, lx⟩
            · refine ⟨_, rfl, .inl ⟨rfl, _, SqL.of f5⟩, _, rfl, f, _, _, rfl, rfl, f5, by rw [rv_len, D5.1]; omega, ?_⟩
              refine ⟨ts ++ [b], D ++ [x], _, _, _, _, rfl, by rw [upd_same]; simp [rv], (D5.snoc hb).upd f5 (fun _ z => by cases z) (fun _ _ z => by cases z), by simp [q3], fun d hd => ?_, v5.upd (.inl hf), S5.side f5 (fun _ z => by cases z) f2⟩
              rcases List.mem_append.mp hd with z | z
              · obtain ⟨y1, y2, y3⟩ := q4 d z
                exact ⟨y1, y2, by omega⟩
              · simp at z; subst z; exact ⟨rx, sx, lx⟩
          · refine iteF ?_
            refine ⟨_, rfl, .inl ⟨rfl, _, SqL.of f5⟩, _, rfl, f, _, _, rfl, rfl, f5, by rw [rv_len, D5.1]; omega, ?_⟩
            refine ⟨ts ++ [b], D ++ [x], _, _, _, _, rfl, by rw [upd_same]; simp [rv], (D5.snoc hb).upd f5 (fun _ z => by cases z) (fun _ _ z => by cases z), by simp [q3], fun d hd => ?_, v5.upd (.inl hf), S5.side f5 (fun _ z => by cases z) f2⟩
            rcases List.mem_append.mp hd with z | z
            · obtain ⟨y1, y2, y3⟩ := q4 d z
              exact ⟨y1, y2, by omega⟩
            · simp at z; subst z; exact ⟨rx, sx, lx⟩
    · rintro σ H' ⟨ts, D, w3, w4, w5, w6, rfl, q1, q2, q3, q4, q5, q6⟩
      have bj := Bd_le (j := r.toNat) (by omega)
      exact ⟨_, rfl, k f ts D H' q5 q6 q1 hf q2 (by omega) fun d hd => let ⟨y1, y2, y3⟩ := q4 d hd; ⟨y1, y2, by omega⟩⟩
end
end W43
namespace FG
theorem Red.undo : ∀ {x : W}, Red x → Red (undo x)
  | [], _ => trivial
  | [a], _ => trivial
  | a :: b :: r, h => by
    have ih : Red (FG.undo (b :: r)) := Red.undo h.2
    have e : FG.undo (a :: b :: r) = FG.undo (b :: r) ++ [-a] := by simp [FG.undo]
    rw [e]
    refine ih.snoc ?_
    have e2 : FG.undo (b :: r) = FG.undo r ++ [-b] := by simp [FG.undo]
    rw [e2]
    simp
    intro z
    exact h.1 (by omega)
/-- two rows of doings that make one group -/
def Eqv (D D2 : List W) : Prop := ∀ δ, InvD δ → ((∀ d ∈ D, Fix δ d) ↔ ∀ d ∈ D2, Fix δ d)
theorem Eqv.trans {A B C : List W} (h : Eqv A B) (h' : Eqv B C) : Eqv A C := fun δ i => (h δ i).trans (h' δ i)
theorem eqv_each {D D1 : List W} (hl : D1.length = D.length) (h : ∀ (i : Nat) (d : W), D1[i]? = some d → ∃ e, D[i]? = some e ∧ (d = e ∨ d = FG.undo e)) : Eqv D D1 := fun δ hi => by
  refine ⟨fun f d hd => ?_, fun f e he => ?_⟩
  · obtain ⟨i, h1⟩ := List.getElem?_of_mem hd
    obtain ⟨e, h2, rfl | rfl⟩ := h i d h1
    · exact f _ (List.mem_of_getElem? h2)
    · exact (Fix.undo_iff hi).mpr (f _ (List.mem_of_getElem? h2))
  · obtain ⟨i, h1⟩ := List.getElem?_of_mem he
    have li : i < D1.length := by rw [hl]; exact (List.getElem?_eq_some_iff.mp h1).1
    obtain ⟨e', h2, h3⟩ := h i _ (List.getElem?_eq_getElem li)
    rw [h1] at h2; cases h2
    have := f _ (List.getElem_mem li)
    rcases h3 with h3 | h3
    · rwa [h3] at this
    · rw [h3] at this; exact (Fix.undo_iff hi).mp this
theorem eqv_set {D : List W} {i j : Nat} {u v : W} (hi : D[i]? = some u) (hj : D[j]? = some v) (ne : i ≠ j) : Eqv D (D.set i (FG.net (u ++ v))) := fun δ iv => by
  have li : i < D.length := (List.getElem?_eq_some_iff.mp hi).1
  refine ⟨fun f d hd => ?_, fun f d hd => ?_⟩
  · rcases List.mem_or_eq_of_mem_set hd with z | z
    · exact f d z
    · rw [z]
      exact (Fix.net iv).mpr (Fix.append (f u (List.mem_of_getElem? hi)) (f v (List.mem_of_getElem? hj)))
  · have fv : Fix δ v := f v (List.mem_of_getElem? (by rw [List.getElem?_set_ne ne]; exact hj))
    have fuv : Fix δ (u ++ v) := (Fix.net iv).mp (f _ (List.mem_of_getElem? (List.getElem?_set_self li)))
    have fu := Fix.cancel iv fv fuv
    obtain ⟨k, hk⟩ := List.getElem?_of_mem hd
    by_cases c : i = k
    · subst c
      rw [hi] at hk; cases hk; exact fu
    · exact f d (List.mem_of_getElem? (by rw [List.getElem?_set_ne c]; exact hk))
theorem eqv_more {D : List W} {m : W} (h : ∀ δ, InvD δ → (∀ d ∈ D, Fix δ d) → Fix δ m) : Eqv D (D ++ [m]) := fun δ iv => by
  refine ⟨fun f d hd => ?_, fun f d hd => f d (by simp [hd])⟩
  rcases List.mem_append.mp hd with z | z
  · exact f d z
  · simp at z; rw [z]; exact h δ iv f
theorem eqv_perm {D D2 : List W} (h : D2.Perm D) : Eqv D D2 := fun δ _ => ⟨fun f d hd => f d (h.mem_iff.mp hd), fun f d hd => f d (h.mem_iff.mpr hd)⟩
end FG
namespace W43
open PySem PySem.Spec PyProof.Rows L2 OW
open C8 (Cal Met Mak pe_c pe_mt pe_mt0 pe_mk)
open FG (Red net undo push total readOn Dl Fix InvD Eqv)
section
variable {P : Program} {w : World} {K : PySem.W.Frag} {mg : Str → Option Value} {base : Heap}
def sp_law_others (K : PySem.W.Frag) : Sp := fun vs H Q _ => ∃ (p c l : Addr) (as : List Addr) (D : List FG.W) (acts : Nat), vs = [.ref p, .ref l] ∧ SrAt H p c ∧ H l = some (.lst (rv as)) ∧ l ≠ c ∧ DoAt K H as D ∧ D.length ≤ 4 ∧ (∀ d ∈ D, Red d ∧ (∀ s ∈ d, s ∈ FG.signs acts) ∧ d.length ≤ 400) ∧
  ∀ (l' : Addr) (as' : List Addr) (D' : List FG.W) H', Sv p c H H' → SrAt H' p c → H' l' = some (.lst (rv as')) → H l' = none → DoAt K H' as' D' → D'.length ≤ 5 → (∀ d ∈ D', Red d ∧ (∀ s ∈ d, s ∈ FG.signs acts) ∧ d.length ≤ 10000) → Eqv D D' → Q (.ref l') H'
theorem c_law_others (T : Tx K mg) : Cal P w K mg base 3 "_law_others" (sp_law_others K) [] := by
  have c_law_pick := c_law_pick (P := P) (w := w) (base := base) T
  have c_law_of := c_law_of (P := P) (w := w) (base := base) T
  have c_law_undone := c_law_undone (P := P) (w := w) (base := base) T
  have c_law_join := c_law_join (P := P) (w := w) (base := base) T
  have c_law_mixed := c_law_mixed (P := P) (w := w) (base := base) T
  obtain ⟨fd, F⟩ := T.d_law_others
  refine calD F T.g_law_others (fun _ _ _ _ _ _ us hl => match us, hl with | [_, _], _ => rfl) sc_law_others (fun vs H Q E h => ?_) (fun cdv A outer s H vs Q E hr h => ?_)
  · obtain ⟨p, c, l, as, D, acts, rfl, _⟩ := h
    rfl
  · obtain ⟨p, c, l, as, D, acts, rfl, hS, hl, nc, hD, b1, b2, k⟩ := h
    refine ⟨_, (pss_cons (ps_setLc (i := 2) (own := [("x", 7)]) rfl sc_law_others.nd rfl rfl (sw_true rfl rfl rfl (by decide +kernel)) (pi_list (pv 1)) (blkOk_by (own := [("x", 7)]) (N := ["source", "doings", "found", "turn", "i", "j", "more", "x"]) (sc := defScope s_law_others) (by decide +kernel)) (fun _ _ _ _ _ => (pg_name (i := 7) sc_law_others.nd rfl (Or.inl rfl))) (fun _ _ _ _ _ => pts_nil) (fun _ _ _ _ _ => (pe_ifExp (pt_cmpR op_eq (pe_c c_law_pick hr (by decide) rfl (pa_cons (pv 0) (pa_cons pe_int pa_nil))) pe_int (nomark _)) (pe_c c_law_undone hr (by decide) rfl (pa_cons (pv 7) pa_nil)) (pv 7))))
      (pss_cons (ps_for PassesOwn.never rfl (pi_range1 rfl T.z_range (pa_cons (pe_ifExp (pt_cmpR op_gt (pe_callB call_len_seq rfl T.z_len (by decide +kernel) (pa_cons (pv 2) pa_nil)) pe_int (nomark _)) pe_int pe_int) pa_nil)) (pg_name (i := 3) sc_law_others.nd rfl (Or.inl rfl)) (pss_cons (ps_par (i := 4) (j := 5) rfl sc_law_others.nd rfl rfl (by decide) rfl rfl (pa_cons (pe_c c_law_pick hr (by decide) rfl (pa_cons (pv 0) (pa_cons (pe_callB call_len_seq rfl T.z_len (by decide +kernel) (pa_cons (pv 2) pa_nil)) pa_nil))) (pa_cons (pe_c c_law_pick hr (by decide) rfl (pa_cons (pv 0) (pa_cons (pe_callB call_len_seq rfl T.z_len (by decide +kernel) (pa_cons (pv 2) pa_nil)) pa_nil))) pa_nil)) (by rfl))
      (pss_one (ps_if (pt_cmpR op_ne (pv 4) (pv 5) (nomark _)) (pss_one (ps_asg (pe_c c_law_join hr (by decide) rfl (pa_cons (pe_lst (pa_cons (pe_ix ix_list (pv 2) (pv 4) (fun _ _ => rfl)) (pa_cons (pe_ix ix_list (pv 2) (pv 5) (fun _ _ => rfl)) pa_nil))) pa_nil)) (pg_sub (pv 2) (pv 4) set_list))) pss_nil))))
      (pss_cons (ps_set (i := 6) sc_law_others.nd rfl (Or.inl rfl) (pe_ifExp (pt_cmpR (op_neD hr.units) (pv 2) (pe_lst pa_nil) (nomark _)) (pe_lst (pa_cons (pe_c c_law_join hr (by decide) rfl (pa_cons (pe_lst (pa_cons (pe_c c_law_of hr (by decide) rfl (pa_cons (pv 0) (pa_cons (pv 2) pa_nil))) (pa_cons (pe_c c_law_of hr (by decide) rfl (pa_cons (pv 0) (pa_cons (pv 2) pa_nil))) pa_nil))) pa_nil)) pa_nil)) (pe_lst (pa_cons (pe_tup pa_nil) pa_nil))))
      (pss_one (ps_ret (pe_c c_law_mixed hr (by decide) rfl (pa_cons (pv 0) (pa_cons (pe_op op_cat (pv 2) (pv 6)) pa_nil)))))))), ?_⟩
    have big : (1000000 : Nat) < sizeLine := by decide
    have np : l ≠ p := fun z => by
      obtain ⟨_, _, _, _, h2, _⟩ := hS
      rw [z, h2] at hl; cases hl
    refine ⟨_, rfl, l, rfl, ⟨_, SqL.of hl⟩, fun f hf => ?_⟩
    obtain ⟨f1, f2⟩ := hS.fresh hf
    have nf : l ≠ f := ne_of_none hl hf
    refine lc_list (K := K) (a := l) (xs := rv as) (fun j H' => ∃ (ts : List Addr) (D1 : List FG.W), H' f = some (.lst (rv ts)) ∧ DoAt K H' ts D1 ∧ D1.length = j ∧ (∀ (i : Nat) (d : FG.W), D1[i]? = some d → ∃ e, D[i]? = some e ∧ (d = e ∨ d = undo e)) ∧ H' l = some (.lst (rv as)) ∧ Sv p c H H' ∧ SrAt H' p c)
      ⟨[], [], upd_same, DoAt.nil, rfl, fun i d e => by simp at e, by rw [upd_ne nf]; exact hl, Sv.refl.upd (.inl hf), hS.go (Same.new hf)⟩ (fun j H' _ ⟨ts, D1, _, _, _, _, q5, _⟩ => SqL.of q5) ?_ ?_
    · rintro j v H' hv ⟨ts, D1, q1, q2, q3, q4, q5, q6, q7⟩
      obtain ⟨a, d, ha, rfl, hd, hT⟩ := (hD.sv hS q6).get hv
      refine ⟨rfl, ?_⟩
      have jl : j < 4 := by have := (List.getElem?_eq_some_iff.mp hd).1; omega
      have fin : ∀ (b : Addr) (x : FG.W) (H5 : Hp), Sv p c H' H5 → SrAt H5 p c → SqT K H5 b (iv x) → (x = d ∨ x = undo d) → ∃ acc, H5 f = some (.lst acc) ∧ acc.length < sizeLine ∧ ∃ (ts : List Addr) (D1 : List FG.W), (upd H5 f (.lst (acc ++ [V.ref b]))) f = some (.lst (rv ts)) ∧ DoAt K (upd H5 f (.lst (acc ++ [V.ref b]))) ts D1 ∧ D1.length = j + 1 ∧ (∀ (i : Nat) (d : FG.W), D1[i]? = some d → ∃ e, D[i]? = some e ∧ (d = e ∨ d = undo e)) ∧ (upd H5 f (.lst (acc ++ [V.ref b]))) l = some (.lst (rv as)) ∧ Sv p c H (upd H5 f (.lst (acc ++ [V.ref b]))) ∧ SrAt (upd H5 f (.lst (acc ++ [V.ref b]))) p c := fun b x H5 s5 S5 hb hx => by
        have k1 := s5 f _ f1 f2 q1
        have k2 := s5 l _ np nc q5
        refine ⟨_, k1, by rw [rv_len, q2.1]; omega, ts ++ [b], D1 ++ [x], by rw [upd_same]; simp [rv], ((q2.sv q7 s5).snoc hb).upd k1 (fun _ z => by cases z) (fun _ _ z => by cases z), by simp [q3], fun i e he => ?_, by rw [upd_ne nf]; exact k2, (q6.trans s5).upd (.inl hf), S5.side k1 (fun _ z => by cases z) f2⟩
        rw [List.getElem?_append] at he
        by_cases ci : i < D1.length
        · rw [if_pos ci] at he
          exact q4 i e he
        · rw [if_neg ci] at he
          have ek : i - D1.length = 0 := by
            obtain ⟨h1, _⟩ := List.getElem?_eq_some_iff.mp he
            simp at h1; omega
          rw [ek] at he
          simp at he
          subst he
          have : i = j := by omega
          rw [this]
          exact ⟨d, hd, hx⟩
      refine ⟨_, rfl, p, c, 2, rfl, q7, by decide, by decide, fun x H5 s5 S5 x0 x1 => ?_⟩
      have hT5 := s5.tup q7 hT
      refine ⟨rfl, _, rfl, ?_⟩
      refine ite2 (fun _ => ?_) (fun _ => ?_)
      · obtain ⟨_, _, b3⟩ := b2 d (List.mem_of_getElem? hd)
        refine ⟨_, rfl, a, d, rfl, hT5, by omega, fun b H6 s6 h6 => ?_⟩
        exact fin b (undo d) H6 (s5.trans (Sv.of s6)) (S5.go s6) h6 (.inr rfl)
      · exact ⟨_, rfl, fin a d H5 s5 S5 hT5 (.inl rfl)⟩
    · rintro H' ⟨ts, D1, q1, q2, q3, q4', q5, q6, q7⟩
      rw [rv_len, hD.1] at q3
      have q8 := FG.eqv_each q3 q4'
      have q4 : ∀ d ∈ D1, Red d ∧ (∀ s ∈ d, s ∈ FG.signs acts) ∧ d.length ≤ 400 := fun d hd => by
        obtain ⟨i, h1⟩ := List.getElem?_of_mem hd
        obtain ⟨e, h2, h3⟩ := q4' i d h1
        obtain ⟨y1, y2, y3⟩ := b2 e (List.mem_of_getElem? h2)
        rcases h3 with rfl | rfl
        · exact ⟨y1, y2, y3⟩
        · exact ⟨y1.undo, signs_undo y2, by rw [undo_len]; exact y3⟩
      refine ⟨_, rfl, f, _, rfl, .inl (SqL.of q1), _, _, rfl, rfl, _, rfl, ?_⟩
      refine ite2 (fun c1 => ?_) (fun c1 => ?_)
      · have z0 : 1 < D.length := by have := of_decide_eq_true c1; rw [rv_len, q2.1, q3] at this; omega
        refine ⟨3, rfl, by decide, by decide, ?_⟩
        let r : Int := 3
        have r3 : r.toNat = 3 := rfl
        refine for_range (lo := 0) (n := r.toNat) (fun t σ H' => ∃ (ts : List Addr) (D1 : List FG.W) (w3 w4 w5 w6 w7 : Option V), σ = [some (.ref p), some (.ref l), some (.ref f), w3, w4, w5, w6, w7] ∧ H' f = some (.lst (rv ts)) ∧ DoAt K H' ts D1 ∧ D1.length = D.length ∧
            (∀ d ∈ D1, Red d ∧ (∀ s ∈ d, s ∈ FG.signs acts) ∧ d.length ≤ 400 * 2 ^ t) ∧ Sv p c H H' ∧ SrAt H' p c ∧ Eqv D D1) ⟨ts, D1, _, _, _, _, _, rfl, q1, q2, q3, fun d hd => let ⟨y1, y2, y3⟩ := q4 d hd; ⟨y1, y2, by omega⟩, q6, q7, q8⟩ ?_ ?_
        · rintro t σ H' ht ⟨ts, D1, w3, w4, w5, w6, w7, rfl, q1, q2, q3, q4, q6, q7, q8⟩
          have lt : 0 < ts.length := by rw [q2.1]; have := z0; omega
          have lt4 : ts.length ≤ 4 := by rw [q2.1]; omega
          refine ⟨_, rfl, _, rfl, f, _, rfl, .inl (SqL.of q1), p, c, _, rfl, q7, by rw [rv_len]; omega, by rw [rv_len]; omega, fun i H3 s3 S3 i0 i1 => ?_⟩
          have g1 := s3 f _ f1 f2 q1
          have g2 := q2.sv q7 s3
          refine ⟨_, rfl, _, rfl, f, _, rfl, .inl (SqL.of g1), p, c, _, rfl, S3, by rw [rv_len]; omega, by rw [rv_len]; omega, fun j H4 s4 S4 j0 j1 => ?_⟩
          rw [rv_len] at i1 j1
          have h1 := s4 f _ f1 f2 g1
          have h2 := g2.sv S3 s4
          have v4 := (q6.trans s3).trans s4
          refine ⟨_, _, rfl, ?_⟩
          refine ⟨_, rfl, _, rfl, rfl, _, rfl, ?_⟩
          have pw : 400 * 2 ^ (t + 1) = 2 * (400 * 2 ^ t) := by rw [Nat.pow_succ]; omega
          refine ite2 (fun c1 => ?_) (fun c1 => ?_)
          · have ne : i ≠ j := fun z => ne_yes c1 (by rw [z])
            have hi : ts[i.toNat]? = some (ts[i.toNat]'(by omega)) := List.getElem?_eq_getElem _
            have hj : ts[j.toNat]? = some (ts[j.toNat]'(by omega)) := List.getElem?_eq_getElem _
            obtain ⟨u, hu1, hu2⟩ := h2.2 _ _ hi
            obtain ⟨v, hv1, hv2⟩ := h2.2 _ _ hj
            generalize ts[i.toNat]'(by omega) = ai at *
            generalize ts[j.toNat]'(by omega) = aj at *
            obtain ⟨y1, y2, y3⟩ := q4 u (List.mem_of_getElem? hu1)
            obtain ⟨y4, y5, y6⟩ := q4 v (List.mem_of_getElem? hv1)
            have p3 : 2 ^ t ≤ 4 := by
              have : t ≤ 2 := by omega
              match t, this with
              | 0, _ => decide
              | 1, _ => decide
              | 2, _ => decide
            refine ⟨_, rfl, _, rfl, f, _, _, _, rfl, rfl, SqL.of h1, at_of (j := i.toNat) (by omega) (rv_at hi), _, rfl, _, rfl, f, _, _, _, rfl, rfl, SqL.of h1, at_of (j := j.toNat) (by omega) (rv_at hj), by show 2 ≤ sizeLine; decide, fun q hq => ?_⟩
            have s9 : Same H4 (upd H4 q (.lst [.ref ai, .ref aj])) := Same.new hq
            refine ⟨q, [ai, aj], [u, v], rfl, SqL.of upd_same, DoAt.two (s9.tup hu2) (s9.tup hv2), by rw [show total [u, v] = u.length + v.length by simp [FG.total]]; omega, fun b H5 s10 hb => ?_⟩
            rw [show [u, v].flatten = u ++ v by simp] at hb
            have k1 := s10 _ _ (s9 _ _ h1)
            have k2 := (h2.go s9).go s10
            have S5 := (S4.go s9).go s10
            have ixn : ixN (rv ts).length i = some i.toNat := by
              unfold ixN
              rw [if_pos i0, if_pos (by rw [rv_len]; exact i1)]
            refine ⟨_, rfl, _, rfl, f, _, i, i.toNat, rfl, rfl, k1, ixn, ?_⟩
            have e7 : (rv ts).set i.toNat (.ref b) = rv (ts.set i.toNat b) := by simp only [rv, List.map_set]
            rw [e7]
            refine ⟨ts.set i.toNat b, D1.set i.toNat (net (u ++ v)), _, _, _, _, _, rfl, upd_same, (k2.set hb _).upd k1 (fun _ z => by cases z) (fun _ _ z => by cases z), by simp [q3], fun d hd => ?_, (v4.trans (Sv.of (s9.trans s10))).upd (.inl hf), S5.side k1 (fun _ z => by cases z) f2, q8.trans (FG.eqv_set hu1 hv1 (by omega))⟩
            rcases List.mem_or_eq_of_mem_set hd with z | z
            · obtain ⟨x1, x2, x3⟩ := q4 d z
              exact ⟨x1, x2, by omega⟩
            · rw [z]
              refine ⟨FG.red_net _, fun s hs => ?_, ?_⟩
              · rcases List.mem_append.mp (FG.net_sub _ hs) with z | z
                · exact y2 s z
                · exact y5 s z
              · have := FG.net_len (u ++ v)
                rw [List.length_append] at this
                omega
          · exact ⟨ts, D1, _, _, _, _, _, rfl, h1, h2, q3, fun d hd => let ⟨y1, y2, y3⟩ := q4 d hd; ⟨y1, y2, by omega⟩, v4, S4, q8⟩
        · rintro σ H' ⟨ts, D1, w3, w4, w5, w6, w7, rfl, q1, q2, q3, q4, q6, q7, q8⟩
          have p3 : 400 * 2 ^ r.toNat ≤ 3200 := by
            have : r.toNat ≤ 3 := by omega
            match r.toNat, this with
            | 0, _ => decide
            | 1, _ => decide
            | 2, _ => decide
            | 3, _ => decide
          refine ⟨_, rfl, Nat.zero_le _, fun y hy => ?_⟩
          have s6 : Same H' (upd H' y (.lst [])) := Same.new hy
          refine ⟨_, _, .lst (SqL.of (s6 _ _ q1)) (q2.go s6).dp, .lst (ds := doD []) (SqL.of upd_same) .nil, shaped_do _, shaped_do _, ?_⟩
          rw [eqv_do]
          refine ⟨_, rfl, ?_⟩
          have f5 := s6 _ _ q1
          have D5 := q2.go s6
          have S5 := q7.go s6
          have v5 := q6.trans (Sv.of s6)
          generalize upd H' y (.lst []) = H5 at *
          have lt4 : ts.length ≤ 4 := by rw [q2.1]; omega
          refine ite2 (fun c4 => ?_) (fun c4 => ?_)
          · have ne := ne_yes c4
            have la : 0 < ts.length := by rw [D5.1]; exact List.length_pos_iff.mpr ne
            refine ⟨_, rfl, _, rfl, p, c, f, ts, rfl, S5, f5, f2, la, by omega, fun i1 a1 H6 ha1 s7 S6 => ?_⟩
            have f6 := s7 f _ f1 f2 f5
            have D6 := D5.sv S5 s7
            obtain ⟨d1, hd1, hT1⟩ := D6.2 i1 a1 ha1
            refine ⟨_, rfl, _, rfl, p, c, f, ts, rfl, S6, f6, f2, la, by omega, fun i2 a2 H7 ha2 s8 S7 => ?_⟩
            have f7 := s8 f _ f1 f2 f6
            have D7 := D6.sv S6 s8
            have hT1 := s8.tup S6 hT1
            obtain ⟨d2, hd2, hT2⟩ := D7.2 i2 a2 ha2
            have v7 := (v5.trans s7).trans s8
            refine ⟨by show 2 ≤ sizeLine; decide, fun q hq => ?_⟩
            have s9 : Same H7 (upd H7 q (.lst [.ref a1, .ref a2])) := Same.new hq
            obtain ⟨m1, m2, m3⟩ := q4 d1 (List.mem_of_getElem? hd1)
            obtain ⟨m4, m5, m6⟩ := q4 d2 (List.mem_of_getElem? hd2)
            refine ⟨q, [a1, a2], [d1, d2], rfl, SqL.of upd_same, DoAt.two (s9.tup hT1) (s9.tup hT2), by rw [show total [d1, d2] = d1.length + d2.length by simp [FG.total]]; omega, fun ma H8 s10 hm7 => ?_⟩
            rw [show [d1, d2].flatten = d1 ++ d2 by simp] at hm7
            have f7 := s10 _ _ (s9 _ _ f7)
            have D7 := (D7.go s9).go s10
            have S7 := (S7.go s9).go s10
            have v7 := v7.trans (Sv.of (s9.trans s10))
            refine ⟨by show 1 ≤ sizeLine; decide, fun mo hmo => ?_⟩
            have s11 : Same H8 (upd H8 mo (.lst [.ref ma])) := Same.new hmo
            have f7 := s11 _ _ f7
            have D7 := D7.go s11
            have S7 := S7.go s11
            have v7 := v7.trans (Sv.of s11)
            have hm7 := s11.tup hm7
            have mo7 : (upd H8 mo (.lst [.ref ma])) mo = some (.lst [.ref ma]) := upd_same
            generalize upd H8 mo (.lst [.ref ma]) = H7 at *
            have mr := FG.red_net (d1 ++ d2)
            have ms : ∀ s ∈ net (d1 ++ d2), s ∈ FG.signs acts := fun s hs => by
              rcases List.mem_append.mp (FG.net_sub _ hs) with z | z
              · exact m2 s z
              · exact m5 s z
            have ml : (net (d1 ++ d2)).length ≤ 10000 := by
              have := FG.net_len (d1 ++ d2)
              rw [List.length_append] at this
              omega
            have me : ∀ δ, InvD δ → (∀ d ∈ D1, Fix δ d) → Fix δ (net (d1 ++ d2)) := fun δ iv f => (Fix.net iv).mpr (Fix.append (f d1 (List.mem_of_getElem? hd1)) (f d2 (List.mem_of_getElem? hd2)))
            generalize net (d1 ++ d2) = mw at *
            have lh : ∀ d ∈ D1 ++ [mw], Red d ∧ (∀ s ∈ d, s ∈ FG.signs acts) ∧ d.length ≤ 10000 := fun d hd => by
              rcases List.mem_append.mp hd with z | z
              · obtain ⟨y1, y2, y3⟩ := q4 d z
                exact ⟨y1, y2, by omega⟩
              · simp at z; subst z; exact ⟨mr, ms, ml⟩
            refine ⟨_, rfl, _, rfl, _, rfl, f, mo, _, _, rfl, rfl, f7, mo7, by rw [rv_len, D7.1]; show _ + 1 ≤ sizeLine; omega, fun q hq => ?_⟩
            have s9 : Same H7 (upd H7 q (.lst (rv ts ++ [.ref ma]))) := Same.new hq
            have e9 : rv ts ++ [V.ref ma] = rv (ts ++ [ma]) := by simp [rv]
            obtain ⟨x1, x2⟩ := S7.fresh hq
            refine ⟨p, c, q, ts ++ [ma], rfl, S7.go s9, by rw [upd_same, e9], x2, by rw [List.length_append, D7.1]; simp; omega, fun as' l' H8 pm s10 S8 h8 n8 => ?_⟩
            have DA := (((D7.snoc hm7).go s9).sv (S7.go s9) s10)
            obtain ⟨D', pm2, DB⟩ := DA.perm pm
            have v8 := (v7.trans (Sv.of s9)).trans s10
            have nl : H l' = none := by
              cases e : H l' with
              | none => rfl
              | some o =>
                obtain ⟨x3, x4⟩ := (S7.go s9).fresh n8
                have := (v7.trans (Sv.of s9)) l' o x3 x4 e
                rw [n8] at this; cases this
            exact k l' as' D' H8 v8 S8 h8 nl DB (by rw [pm2.length_eq, List.length_append]; simp; omega) (fun d hd => lh d (pm2.mem_iff.mp hd)) ((q8.trans (FG.eqv_more me)).trans (FG.eqv_perm pm2))
          · refine ⟨Nat.zero_le _, fun ma hma => ⟨by show 1 ≤ sizeLine; decide, fun mo hmo => ?_⟩⟩
            have s9 : Same H5 (upd H5 ma (.tup [])) := Same.new hma
            have s11 : Same (upd H5 ma (.tup [])) (upd (upd H5 ma (.tup [])) mo (.lst [.ref ma])) := Same.new hmo
            have f7 := s11 _ _ (s9 _ _ f5)
            have D7 := (D5.go s9).go s11
            have S7 := (S5.go s9).go s11
            have v7 := v5.trans (Sv.of (s9.trans s11))
            have hm7 : SqT K (upd (upd H5 ma (.tup [])) mo (.lst [.ref ma])) ma (iv []) := s11.tup (SqT.of upd_same)
            have mo7 : (upd (upd H5 ma (.tup [])) mo (.lst [.ref ma])) mo = some (.lst [.ref ma]) := upd_same
            generalize upd (upd H5 ma (.tup [])) mo (.lst [.ref ma]) = H7 at *
            obtain ⟨mw, emw⟩ : ∃ mw : FG.W, mw = [] := ⟨_, rfl⟩
            have mr : Red mw := by rw [emw]; trivial
            have ms : ∀ s ∈ mw, s ∈ FG.signs acts := by rw [emw]; exact fun _ z => (nomatch z)
            have ml : mw.length ≤ 10000 := by rw [emw]; exact Nat.zero_le _
            have me : ∀ δ, InvD δ → (∀ d ∈ D1, Fix δ d) → Fix δ mw := fun δ iv f => by rw [emw]; rfl
            have hm7 : SqT K H7 ma (iv mw) := by rw [emw]; exact hm7
            have lh : ∀ d ∈ D1 ++ [mw], Red d ∧ (∀ s ∈ d, s ∈ FG.signs acts) ∧ d.length ≤ 10000 := fun d hd => by
              rcases List.mem_append.mp hd with z | z
              · obtain ⟨y1, y2, y3⟩ := q4 d z
                exact ⟨y1, y2, by omega⟩
              · simp at z; subst z; exact ⟨mr, ms, ml⟩
            refine ⟨_, rfl, _, rfl, _, rfl, f, mo, _, _, rfl, rfl, f7, mo7, by rw [rv_len, D7.1]; show _ + 1 ≤ sizeLine; omega, fun q hq => ?_⟩
            have s9 : Same H7 (upd H7 q (.lst (rv ts ++ [.ref ma]))) := Same.new hq
            have e9 : rv ts ++ [V.ref ma] = rv (ts ++ [ma]) := by simp [rv]
            obtain ⟨x1, x2⟩ := S7.fresh hq
            refine ⟨p, c, q, ts ++ [ma], rfl, S7.go s9, by rw [upd_same, e9], x2, by rw [List.length_append, D7.1]; simp; omega, fun as' l' H8 pm s10 S8 h8 n8 => ?_⟩
            have DA := (((D7.snoc hm7).go s9).sv (S7.go s9) s10)
            obtain ⟨D', pm2, DB⟩ := DA.perm pm
            have v8 := (v7.trans (Sv.of s9)).trans s10
            have nl : H l' = none := by
              cases e : H l' with
              | none => rfl
              | some o =>
                obtain ⟨x3, x4⟩ := (S7.go s9).fresh n8
                have := (v7.trans (Sv.of s9)) l' o x3 x4 e
                rw [n8] at this; cases this
            exact k l' as' D' H8 v8 S8 h8 nl DB (by rw [pm2.length_eq, List.length_append]; simp; omega) (fun d hd => lh d (pm2.mem_iff.mp hd)) ((q8.trans (FG.eqv_more me)).trans (FG.eqv_perm pm2))
      · refine ⟨0, rfl, by decide, by decide, ?_⟩
        let r : Int := 0
        have r3 : r.toNat = 0 := rfl
        have z0 : True := trivial
        refine for_range (lo := 0) (n := r.toNat) (fun t σ H' => ∃ (ts : List Addr) (D1 : List FG.W) (w3 w4 w5 w6 w7 : Option V), σ = [some (.ref p), some (.ref l), some (.ref f), w3, w4, w5, w6, w7] ∧ H' f = some (.lst (rv ts)) ∧ DoAt K H' ts D1 ∧ D1.length = D.length ∧
            (∀ d ∈ D1, Red d ∧ (∀ s ∈ d, s ∈ FG.signs acts) ∧ d.length ≤ 400 * 2 ^ t) ∧ Sv p c H H' ∧ SrAt H' p c ∧ Eqv D D1) ⟨ts, D1, _, _, _, _, _, rfl, q1, q2, q3, fun d hd => let ⟨y1, y2, y3⟩ := q4 d hd; ⟨y1, y2, by omega⟩, q6, q7, q8⟩ ?_ ?_
        · rintro t σ H' ht ⟨ts, D1, w3, w4, w5, w6, w7, rfl, q1, q2, q3, q4, q6, q7, q8⟩
          have lt : 0 < ts.length := by rw [q2.1]; have := z0; omega
          have lt4 : ts.length ≤ 4 := by rw [q2.1]; omega
          refine ⟨_, rfl, _, rfl, f, _, rfl, .inl (SqL.of q1), p, c, _, rfl, q7, by rw [rv_len]; omega, by rw [rv_len]; omega, fun i H3 s3 S3 i0 i1 => ?_⟩
          have g1 := s3 f _ f1 f2 q1
          have g2 := q2.sv q7 s3
          refine ⟨_, rfl, _, rfl, f, _, rfl, .inl (SqL.of g1), p, c, _, rfl, S3, by rw [rv_len]; omega, by rw [rv_len]; omega, fun j H4 s4 S4 j0 j1 => ?_⟩
          rw [rv_len] at i1 j1
          have h1 := s4 f _ f1 f2 g1
          have h2 := g2.sv S3 s4
          have v4 := (q6.trans s3).trans s4
          refine ⟨_, _, rfl, ?_⟩
          refine ⟨_, rfl, _, rfl, rfl, _, rfl, ?_⟩
          have pw : 400 * 2 ^ (t + 1) = 2 * (400 * 2 ^ t) := by rw [Nat.pow_succ]; omega
          refine ite2 (fun c1 => ?_) (fun c1 => ?_)
          · have ne : i ≠ j := fun z => ne_yes c1 (by rw [z])
            have hi : ts[i.toNat]? = some (ts[i.toNat]'(by omega)) := List.getElem?_eq_getElem _
            have hj : ts[j.toNat]? = some (ts[j.toNat]'(by omega)) := List.getElem?_eq_getElem _
            obtain ⟨u, hu1, hu2⟩ := h2.2 _ _ hi
            obtain ⟨v, hv1, hv2⟩ := h2.2 _ _ hj
            generalize ts[i.toNat]'(by omega) = ai at *
            generalize ts[j.toNat]'(by omega) = aj at *
            obtain ⟨y1, y2, y3⟩ := q4 u (List.mem_of_getElem? hu1)
            obtain ⟨y4, y5, y6⟩ := q4 v (List.mem_of_getElem? hv1)
            have p3 : 2 ^ t ≤ 4 := by
              have : t ≤ 2 := by omega
              match t, this with
              | 0, _ => decide
              | 1, _ => decide
              | 2, _ => decide
            refine ⟨_, rfl, _, rfl, f, _, _, _, rfl, rfl, SqL.of h1, at_of (j := i.toNat) (by omega) (rv_at hi), _, rfl, _, rfl, f, _, _, _, rfl, rfl, SqL.of h1, at_of (j := j.toNat) (by omega) (rv_at hj), by show 2 ≤ sizeLine; decide, fun q hq => ?_⟩
            have s9 : Same H4 (upd H4 q (.lst [.ref ai, .ref aj])) := Same.new hq
            refine ⟨q, [ai, aj], [u, v], rfl, SqL.of upd_same, DoAt.two (s9.tup hu2) (s9.tup hv2), by rw [show total [u, v] = u.length + v.length by simp [FG.total]]; omega, fun b H5 s10 hb => ?_⟩
            rw [show [u, v].flatten = u ++ v by simp] at hb
            have k1 := s10 _ _ (s9 _ _ h1)
            have k2 := (h2.go s9).go s10
            have S5 := (S4.go s9).go s10
            have ixn : ixN (rv ts).length i = some i.toNat := by
              unfold ixN
              rw [if_pos i0, if_pos (by rw [rv_len]; exact i1)]
            refine ⟨_, rfl, _, rfl, f, _, i, i.toNat, rfl, rfl, k1, ixn, ?_⟩
            have e7 : (rv ts).set i.toNat (.ref b) = rv (ts.set i.toNat b) := by simp only [rv, List.map_set]
            rw [e7]
            refine ⟨ts.set i.toNat b, D1.set i.toNat (net (u ++ v)), _, _, _, _, _, rfl, upd_same, (k2.set hb _).upd k1 (fun _ z => by cases z) (fun _ _ z => by cases z), by simp [q3], fun d hd => ?_, (v4.trans (Sv.of (s9.trans s10))).upd (.inl hf), S5.side k1 (fun _ z => by cases z) f2, q8.trans (FG.eqv_set hu1 hv1 (by omega))⟩
            rcases List.mem_or_eq_of_mem_set hd with z | z
            · obtain ⟨x1, x2, x3⟩ := q4 d z
              exact ⟨x1, x2, by omega⟩
            · rw [z]
              refine ⟨FG.red_net _, fun s hs => ?_, ?_⟩
              · rcases List.mem_append.mp (FG.net_sub _ hs) with z | z
                · exact y2 s z
                · exact y5 s z
              · have := FG.net_len (u ++ v)
                rw [List.length_append] at this
                omega
          · exact ⟨ts, D1, _, _, _, _, _, rfl, h1, h2, q3, fun d hd => let ⟨y1, y2, y3⟩ := q4 d hd; ⟨y1, y2, by omega⟩, v4, S4, q8⟩
        · rintro σ H' ⟨ts, D1, w3, w4, w5, w6, w7, rfl, q1, q2, q3, q4, q6, q7, q8⟩
          have p3 : 400 * 2 ^ r.toNat ≤ 3200 := by
            have : r.toNat ≤ 3 := by omega
            match r.toNat, this with
            | 0, _ => decide
            | 1, _ => decide
            | 2, _ => decide
            | 3, _ => decide
          refine ⟨_, rfl, Nat.zero_le _, fun y hy => ?_⟩
          have s6 : Same H' (upd H' y (.lst [])) := Same.new hy
          refine ⟨_, _, .lst (SqL.of (s6 _ _ q1)) (q2.go s6).dp, .lst (ds := doD []) (SqL.of upd_same) .nil, shaped_do _, shaped_do _, ?_⟩
          rw [eqv_do]
          refine ⟨_, rfl, ?_⟩
          have f5 := s6 _ _ q1
          have D5 := q2.go s6
          have S5 := q7.go s6
          have v5 := q6.trans (Sv.of s6)
          generalize upd H' y (.lst []) = H5 at *
          have lt4 : ts.length ≤ 4 := by rw [q2.1]; omega
          refine ite2 (fun c4 => ?_) (fun c4 => ?_)
          · have ne := ne_yes c4
            have la : 0 < ts.length := by rw [D5.1]; exact List.length_pos_iff.mpr ne
            refine ⟨_, rfl, _, rfl, p, c, f, ts, rfl, S5, f5, f2, la, by omega, fun i1 a1 H6 ha1 s7 S6 => ?_⟩
            have f6 := s7 f _ f1 f2 f5
            have D6 := D5.sv S5 s7
            obtain ⟨d1, hd1, hT1⟩ := D6.2 i1 a1 ha1
            refine ⟨_, rfl, _, rfl, p, c, f, ts, rfl, S6, f6, f2, la, by omega, fun i2 a2 H7 ha2 s8 S7 => ?_⟩
            have f7 := s8 f _ f1 f2 f6
            have D7 := D6.sv S6 s8
            have hT1 := s8.tup S6 hT1
            obtain ⟨d2, hd2, hT2⟩ := D7.2 i2 a2 ha2
            have v7 := (v5.trans s7).trans s8
            refine ⟨by show 2 ≤ sizeLine; decide, fun q hq => ?_⟩
            have s9 : Same H7 (upd H7 q (.lst [.ref a1, .ref a2])) := Same.new hq
            obtain ⟨m1, m2, m3⟩ := q4 d1 (List.mem_of_getElem? hd1)
            obtain ⟨m4, m5, m6⟩ := q4 d2 (List.mem_of_getElem? hd2)
            refine ⟨q, [a1, a2], [d1, d2], rfl, SqL.of upd_same, DoAt.two (s9.tup hT1) (s9.tup hT2), by rw [show total [d1, d2] = d1.length + d2.length by simp [FG.total]]; omega, fun ma H8 s10 hm7 => ?_⟩
            rw [show [d1, d2].flatten = d1 ++ d2 by simp] at hm7
            have f7 := s10 _ _ (s9 _ _ f7)
            have D7 := (D7.go s9).go s10
            have S7 := (S7.go s9).go s10
            have v7 := v7.trans (Sv.of (s9.trans s10))
            refine ⟨by show 1 ≤ sizeLine; decide, fun mo hmo => ?_⟩
            have s11 : Same H8 (upd H8 mo (.lst [.ref ma])) := Same.new hmo
            have f7 := s11 _ _ f7
            have D7 := D7.go s11
            have S7 := S7.go s11
            have v7 := v7.trans (Sv.of s11)
            have hm7 := s11.tup hm7
            have mo7 : (upd H8 mo (.lst [.ref ma])) mo = some (.lst [.ref ma]) := upd_same
            generalize upd H8 mo (.lst [.ref ma]) = H7 at *
            have mr := FG.red_net (d1 ++ d2)
            have ms : ∀ s ∈ net (d1 ++ d2), s ∈ FG.signs acts := fun s hs => by
              rcases List.mem_append.mp (FG.net_sub _ hs) with z | z
              · exact m2 s z
              · exact m5 s z
            have ml : (net (d1 ++ d2)).length ≤ 10000 := by
              have := FG.net_len (d1 ++ d2)
              rw [List.length_append] at this
              omega
            have me : ∀ δ, InvD δ → (∀ d ∈ D1, Fix δ d) → Fix δ (net (d1 ++ d2)) := fun δ iv f => (Fix.net iv).mpr (Fix.append (f d1 (List.mem_of_getElem? hd1)) (f d2 (List.mem_of_getElem? hd2)))
            generalize net (d1 ++ d2) = mw at *
            have lh : ∀ d ∈ D1 ++ [mw], Red d ∧ (∀ s ∈ d, s ∈ FG.signs acts) ∧ d.length ≤ 10000 := fun d hd => by
              rcases List.mem_append.mp hd with z | z
              · obtain ⟨y1, y2, y3⟩ := q4 d z
                exact ⟨y1, y2, by omega⟩
              · simp at z; subst z; exact ⟨mr, ms, ml⟩
            refine ⟨_, rfl, _, rfl, _, rfl, f, mo, _, _, rfl, rfl, f7, mo7, by rw [rv_len, D7.1]; show _ + 1 ≤ sizeLine; omega, fun q hq => ?_⟩
            have s9 : Same H7 (upd H7 q (.lst (rv ts ++ [.ref ma]))) := Same.new hq
            have e9 : rv ts ++ [V.ref ma] = rv (ts ++ [ma]) := by simp [rv]
            obtain ⟨x1, x2⟩ := S7.fresh hq
            refine ⟨p, c, q, ts ++ [ma], rfl, S7.go s9, by rw [upd_same, e9], x2, by rw [List.length_append, D7.1]; simp; omega, fun as' l' H8 pm s10 S8 h8 n8 => ?_⟩
            have DA := (((D7.snoc hm7).go s9).sv (S7.go s9) s10)
            obtain ⟨D', pm2, DB⟩ := DA.perm pm
            have v8 := (v7.trans (Sv.of s9)).trans s10
            have nl : H l' = none := by
              cases e : H l' with
              | none => rfl
              | some o =>
                obtain ⟨x3, x4⟩ := (S7.go s9).fresh n8
                have := (v7.trans (Sv.of s9)) l' o x3 x4 e
                rw [n8] at this; cases this
            exact k l' as' D' H8 v8 S8 h8 nl DB (by rw [pm2.length_eq, List.length_append]; simp; omega) (fun d hd => lh d (pm2.mem_iff.mp hd)) ((q8.trans (FG.eqv_more me)).trans (FG.eqv_perm pm2))
          · refine ⟨Nat.zero_le _, fun ma hma => ⟨by show 1 ≤ sizeLine; decide, fun mo hmo => ?_⟩⟩
            have s9 : Same H5 (upd H5 ma (.tup [])) := Same.new hma
            have s11 : Same (upd H5 ma (.tup [])) (upd (upd H5 ma (.tup [])) mo (.lst [.ref ma])) := Same.new hmo
            have f7 := s11 _ _ (s9 _ _ f5)
            have D7 := (D5.go s9).go s11
            have S7 := (S5.go s9).go s11
            have v7 := v5.trans (Sv.of (s9.trans s11))
            have hm7 : SqT K (upd (upd H5 ma (.tup [])) mo (.lst [.ref ma])) ma (iv []) := s11.tup (SqT.of upd_same)
            have mo7 : (upd (upd H5 ma (.tup [])) mo (.lst [.ref ma])) mo = some (.lst [.ref ma]) := upd_same
            generalize upd (upd H5 ma (.tup [])) mo (.lst [.ref ma]) = H7 at *
            obtain ⟨mw, emw⟩ : ∃ mw : FG.W, mw = [] := ⟨_, rfl⟩
            have mr : Red mw := by rw [emw]; trivial
            have ms : ∀ s ∈ mw, s ∈ FG.signs acts := by rw [emw]; exact fun _ z => (nomatch z)
            have ml : mw.length ≤ 10000 := by rw [emw]; exact Nat.zero_le _
            have me : ∀ δ, InvD δ → (∀ d ∈ D1, Fix δ d) → Fix δ mw := fun δ iv f => by rw [emw]; rfl
            have hm7 : SqT K H7 ma (iv mw) := by rw [emw]; exact hm7
            have lh : ∀ d ∈ D1 ++ [mw], Red d ∧ (∀ s ∈ d, s ∈ FG.signs acts) ∧ d.length ≤ 10000 := fun d hd => by
              rcases List.mem_append.mp hd with z | z
              · obtain ⟨y1, y2, y3⟩ := q4 d z
                exact ⟨y1, y2, by omega⟩
              · simp at z; subst z; exact ⟨mr, ms, ml⟩
            refine ⟨_, rfl, _, rfl, _, rfl, f, mo, _, _, rfl, rfl, f7, mo7, by rw [rv_len, D7.1]; show _ + 1 ≤ sizeLine; omega, fun q hq => ?_⟩
            have s9 : Same H7 (upd H7 q (.lst (rv ts ++ [.ref ma]))) := Same.new hq
            have e9 : rv ts ++ [V.ref ma] = rv (ts ++ [ma]) := by simp [rv]
            obtain ⟨x1, x2⟩ := S7.fresh hq
            refine ⟨p, c, q, ts ++ [ma], rfl, S7.go s9, by rw [upd_same, e9], x2, by rw [List.length_append, D7.1]; simp; omega, fun as' l' H8 pm s10 S8 h8 n8 => ?_⟩
            have DA := (((D7.snoc hm7).go s9).sv (S7.go s9) s10)
            obtain ⟨D', pm2, DB⟩ := DA.perm pm
            have v8 := (v7.trans (Sv.of s9)).trans s10
            have nl : H l' = none := by
              cases e : H l' with
              | none => rfl
              | some o =>
                obtain ⟨x3, x4⟩ := (S7.go s9).fresh n8
                have := (v7.trans (Sv.of s9)) l' o x3 x4 e
                rw [n8] at this; cases this
            exact k l' as' D' H8 v8 S8 h8 nl DB (by rw [pm2.length_eq, List.length_append]; simp; omega) (fun d hd => lh d (pm2.mem_iff.mp hd)) ((q8.trans (FG.eqv_more me)).trans (FG.eqv_perm pm2))
end
end W43
namespace W43
open PySem PySem.Spec PyProof.Rows L2 OW
open C8 (Cal Met Mak pe_c pe_mt pe_mt0 pe_mk)
open FG (Red net undo push total readOn Dl Edge loopE flowerE flower lastOf Func Look ren Lap Bfs extRow numD GraphOf Num)
/-! ### edges as tuples -/
def EdAt (H : Hp) (ts : List Addr) (E : List Edge) : Prop := Paired (fun (t : Addr) (e : Edge) => H t = some (.tup [.int (e.1 : Nat), .int e.2.1, .int (e.2.2 : Nat)])) ts E
section
variable {H H' : Hp} {ts : List Addr} {E : List Edge}
theorem EdAt.go (h : EdAt H ts E) (s : Same H H') : EdAt H' ts E := Paired.mono (fun _ _ e => s _ _ e) h
theorem EdAt.upd {a : Addr} {o u : HO} (h : EdAt H ts E) (ha : H a = some o) (n : ∀ xs, o ≠ .tup xs) : EdAt (L2.upd H a u) ts E :=
  Paired.mono (fun _ _ e => by rw [upd_ne (ne_of e ha (Ne.symm (n _)))]; exact e) h
theorem EdAt.get (h : EdAt H ts E) {i : Nat} {x : V} (hx : (rv ts)[i]? = some x) : ∃ t P s Q, ts[i]? = some t ∧ x = .ref t ∧ E[i]? = some (P, s, Q) ∧ H t = some (.tup [.int (P : Nat), .int s, .int (Q : Nat)]) := by
  obtain ⟨t, ht, rfl⟩ := rv_get hx
  clear hx
  unfold EdAt at h
  induction h generalizing i with
  | nil => simp at ht
  | @cons t' e ts E h1 h2 ih =>
    cases i with
    | zero => simp at ht; subst ht; exact ⟨t', e.1, e.2.1, e.2.2, rfl, rfl, rfl, h1⟩
    | succ i => exact ih ht
theorem EdAt.len (h : EdAt H ts E) : ts.length = E.length := Paired.length h
end
def keyOf (e : Edge) : List Key := [Sum.inl (e.1 : Int), Sum.inl e.2.1, Sum.inl (e.2.2 : Int)]
theorem keyOf_inj {e f : Edge} (h : keyOf e = keyOf f) : e = f := by
  obtain ⟨a, b, c⟩ := e
  obtain ⟨x, y, z⟩ := f
  simp only [keyOf, List.cons.injEq, and_true] at h
  obtain ⟨h1, h2, h3⟩ := h
  have := inl_nat.mp h1
  have := inl_nat.mp h3
  have := Sum.inl.inj h2
  subst_vars; rfl
def kq (P : Nat) (s : Int) : List Key := [Sum.inl (P : Int), Sum.inl s]
theorem kq_inj {P Q : Nat} {s t : Int} : kq P s = kq Q t ↔ P = Q ∧ s = t := by
  refine ⟨fun h => ?_, fun ⟨h1, h2⟩ => by rw [h1, h2]⟩
  simp only [kq, List.cons.injEq, and_true] at h
  exact ⟨inl_nat.mp h.1, Sum.inl.inj h.2⟩
theorem keys_putK {kvs : List (List Key × V)} {k j : List Key} {v : V} : j ∈ (putK kvs k v).map (·.1) ↔ j = k ∨ j ∈ kvs.map (·.1) := by
  unfold putK
  by_cases c : (kvs.any fun kv => decide (kv.1 = k)) = true
  · rw [if_pos c]
    have e : (kvs.map fun kv => if kv.1 = k then (kv.1, v) else kv).map (·.1) = kvs.map (·.1) := by
      rw [List.map_map]
      apply List.map_congr_left
      intro kv _
      show (if kv.1 = k then (kv.1, v) else kv).1 = kv.1
      split <;> rfl
    rw [e]
    refine ⟨.inr, fun h => ?_⟩
    rcases h with rfl | h
    · rw [List.any_eq_true] at c
      obtain ⟨x, hx, hk⟩ := c
      exact List.mem_map.mpr ⟨x, hx, of_decide_eq_true hk⟩
    · exact h
  · rw [if_neg c, List.map_append, List.mem_append]
    simp
    constructor
    · rintro (h | h)
      · exact .inr h
      · exact .inl h
    · rintro (h | h)
      · exact .inr h
      · exact .inl h
theorem mergeT_snoc {kvs : List (List Key × V)} {k : List Key} {v : V} : mergeT [] (kvs ++ [(k, v)]) = putK (mergeT [] kvs) k v := by
  unfold mergeT; rw [List.foldl_append]; rfl
theorem list_snoc_ind {α : Type} {p : List α → Prop} (h0 : p []) (h1 : ∀ l a, p l → p (l ++ [a])) (l : List α) : p l := by
  have : ∀ r : List α, p r.reverse := fun r => by
    induction r with
    | nil => exact h0
    | cons a r ih => rw [List.reverse_cons]; exact h1 _ _ ih
  have := this l.reverse
  rwa [List.reverse_reverse] at this
theorem mergeT_keys (kvs : List (List Key × V)) (j : List Key) : j ∈ (mergeT [] kvs).map (·.1) ↔ j ∈ kvs.map (·.1) := by
  induction kvs using list_snoc_ind with
  | h0 => rfl
  | h1 l a ih =>
    obtain ⟨k, v⟩ := a
    rw [mergeT_snoc, keys_putK, ih, List.map_append, List.mem_append]
    simp
    constructor
    · rintro (h | h)
      · exact .inr h
      · exact .inl h
    · rintro (h | h)
      · exact .inr h
      · exact .inl h
theorem mergeT_len (kvs : List (List Key × V)) : (mergeT [] kvs).length ≤ kvs.length := by
  induction kvs using list_snoc_ind with
  | h0 => exact Nat.le_refl 0
  | h1 l a ih =>
    obtain ⟨k, v⟩ := a
    rw [mergeT_snoc, List.length_append]
    have := length_putK (mergeT [] l) k v
    simp; omega
/-- a dict tells where signs lead -/
def Leads (kvs : List (List Key × V)) (E : List Edge) : Prop := (∀ P s, valV kvs (kq P s) = (lastOf E P s).map fun q => V.int (q : Nat)) ∧ kvs.length ≤ E.length
theorem Leads.nil : Leads [] [] := ⟨fun _ _ => rfl, Nat.le_refl 0⟩
theorem Leads.put {kvs : List (List Key × V)} {E : List Edge} (h : Leads kvs E) (P : Nat) (s : Int) (Q : Nat) : Leads (putK kvs (kq P s) (V.int (Q : Nat))) (E ++ [(P, s, Q)]) := by
  refine ⟨fun P' s' => ?_, by have := length_putK kvs (kq P s) (V.int (Q : Nat)); have := h.2; simp; omega⟩
  rw [valV_put, FG.lastOf_snoc, h.1]
  by_cases c : P' = P ∧ s' = s
  · rw [if_pos c, if_pos (kq_inj.mpr c)]; rfl
  · rw [if_neg c, if_neg (fun z => c (kq_inj.mp z))]
theorem Leads.merge (E : List Edge) : Leads (mergeT [] (E.map fun e => (kq e.1 e.2.1, V.int (e.2.2 : Nat)))) E := by
  induction E using list_snoc_ind with
  | h0 => exact .nil
  | h1 l a ih =>
    obtain ⟨P, s, Q⟩ := a
    rw [List.map_append]
    show Leads (mergeT [] (_ ++ [(kq P s, V.int (Q : Nat))])) _
    rw [mergeT_snoc]
    exact ih.put P s Q
/-- edges from a dict's keys -/
theorem keys_edges {H : Hp} {S : List Edge} : ∀ {M : List (List Key × V)} {bs : List Addr}, IsKeys H M bs → (∀ p ∈ M, ∃ e ∈ S, p.1 = keyOf e) → ∃ E2 : List Edge, EdAt H bs E2 ∧ E2.map keyOf = M.map (·.1) := by
  intro M bs h
  unfold IsKeys at h
  induction h with
  | nil => exact fun _ => ⟨[], .nil, rfl⟩
  | @cons p b M bs h1 h2 ih =>
    intro f
    obtain ⟨E2, q1, q2⟩ := ih fun p hp => f p (by simp [hp])
    obtain ⟨e, _, he⟩ := f p (by simp)
    refine ⟨e :: E2, .cons ?_ q1, by rw [List.map_cons, List.map_cons, q2, he]⟩
    rw [h1, he]; rfl
theorem merge_edges {H : Hp} {S : List Edge} {bs : List Addr} (h : IsKeys H (mergeT [] (S.map fun e => (keyOf e, V.int 0))) bs) : ∃ E2 : List Edge, EdAt H bs E2 ∧ (∀ e, e ∈ E2 ↔ e ∈ S) ∧ E2.length ≤ S.length := by
  have kk : ∀ k, k ∈ (mergeT [] (S.map fun e => (keyOf e, V.int 0))).map (·.1) ↔ k ∈ S.map keyOf := fun k => by
    rw [mergeT_keys, List.map_map]; rfl
  obtain ⟨E2, q1, q2⟩ := keys_edges (S := S) h fun p hp => by
    have := (kk p.1).mp (List.mem_map.mpr ⟨p, hp, rfl⟩)
    obtain ⟨e, he, e2⟩ := List.mem_map.mp this
    exact ⟨e, he, e2.symm⟩
  refine ⟨E2, q1, fun e => ?_, ?_⟩
  · have : keyOf e ∈ E2.map keyOf ↔ keyOf e ∈ S.map keyOf := by rw [q2]; exact kk _
    constructor
    · intro he
      obtain ⟨f, hf, e2⟩ := List.mem_map.mp (this.mp (List.mem_map.mpr ⟨e, he, rfl⟩))
      rwa [← keyOf_inj e2]
    · intro he
      obtain ⟨f, hf, e2⟩ := List.mem_map.mp (this.mpr (List.mem_map.mpr ⟨e, he, rfl⟩))
      rwa [← keyOf_inj e2]
  · have h1 : E2.length = (mergeT [] (S.map fun e => (keyOf e, V.int 0))).length := by
      have := congrArg List.length q2
      simpa using this
    have h2 := mergeT_len (S.map fun e => (keyOf e, V.int 0))
    rw [List.length_map] at h2
    omega
theorem loopE_len : ∀ (d : FG.W) (h m : Nat), (loopE h m d).1.length = 2 * d.length
  | [], h, m => rfl
  | [s], h, m => rfl
  | s :: t :: r, h, m => by
    have := loopE_len (t :: r) m (m + 1)
    simp only [loopE, List.length_cons] at this ⊢
    omega
theorem flowerE_snoc : ∀ (D : List FG.W) (d : FG.W) (m : Nat), flowerE m (D ++ [d]) = ((flowerE m D).1 ++ (loopE 0 (flowerE m D).2 d).1, (loopE 0 (flowerE m D).2 d).2)
  | [], d, m => by simp [flowerE]
  | x :: D, d, m => by
    simp only [List.cons_append, flowerE]
    rw [flowerE_snoc D d]
    simp
theorem flowerE_len : ∀ (D : List FG.W) (m : Nat), (flowerE m D).1.length = 2 * total D
  | [], m => rfl
  | d :: D, m => by
    have := flowerE_len D (loopE 0 m d).2
    have := loopE_len d 0 m
    simp [flowerE, FG.total] at *
    omega
end W43
namespace W43
open PySem PySem.Spec PyProof.Rows L2 OW
open C8 (Cal Met Mak pe_c pe_mt pe_mt0 pe_mk)
open FG (Red net undo push total readOn Dl Edge loopE flowerE flower lastOf Func Look ren Lap Bfs extRow numD GraphOf Num)
section
variable {P : Program} {w : World} {K : PySem.W.Frag} {mg : Str → Option Value} {base : Heap}
def sp_law_graph (K : PySem.W.Frag) : Sp := fun vs H Q _ => ∃ (acts : Nat) (l : Addr) (as : List Addr) (D : List FG.W), vs = [.int (acts : Nat), .ref l] ∧ H l = some (.lst (rv as)) ∧ DoAt K H as D ∧ 0 < acts ∧ acts ≤ 1000 ∧ (∀ d ∈ D, ∀ s ∈ d, s ∈ FG.signs acts) ∧ total D ≤ 100000 ∧
  ∀ a H' n δ m, Same H H' → GrAt K H' a acts n δ → GraphOf D n δ m → Num acts n δ → 0 < n → Q (.ref a) H'
theorem PairsT.go {H H' : Hp} {ps : List Addr} {kvs : List (List Key × V)} (h : PairsT K H ps kvs) (s : Same H H') : PairsT K H' ps kvs := Paired.mono (fun _ _ ⟨b, h1, h2⟩ => ⟨b, s.tup h1, s _ _ h2⟩) h
theorem PairsT.upd {H : Hp} {a : Addr} {o u : HO} {ps : List Addr} {kvs : List (List Key × V)} (h : PairsT K H ps kvs) (ha : H a = some o) (n1 : ∀ xs, o ≠ .tup xs) (n2 : ∀ b xs, o ≠ .frz b (.tup xs)) : PairsT K (L2.upd H a u) ps kvs :=
  Paired.mono (fun _ _ ⟨b, h1, h2⟩ => ⟨b, sqt_upd h1 ha (n1 _) (fun b => n2 b _), by rw [upd_ne (ne_of h2 ha (Ne.symm (n1 _)))]; exact h2⟩) h
theorem signs_get {acts j : Nat} (h : j < acts) : (FG.signs acts)[2 * j]? = some ((j : Int) + 1) ∧ (FG.signs acts)[2 * j + 1]? = some (-((j : Int) + 1)) := by
  induction acts with
  | zero => omega
  | succ n ih =>
    rw [signs_succ, List.getElem?_append, List.getElem?_append, signs_len]
    by_cases c : j < n
    · rw [if_pos (by omega), if_pos (by omega)]; exact ih c
    · have : j = n := by omega
      subst this
      rw [if_neg (by omega), if_neg (by omega)]
      have e1 : 2 * j - 2 * j = 0 := by omega
      have e2 : 2 * j + 1 - 2 * j = 1 := by omega
      rw [e1, e2]; exact ⟨rfl, rfl⟩
theorem nodup_sub : ∀ {l L : List Nat}, l.Nodup → (∀ x ∈ l, x ∈ L) → l.length ≤ L.length
  | [], L, _, _ => Nat.zero_le _
  | a :: l, L, hn, h => by
    rw [List.nodup_cons] at hn
    have ha := h a (by simp)
    have := nodup_sub (l := l) (L := L.erase a) hn.2 fun x hx => (List.mem_erase_of_ne (fun z => by subst z; exact hn.1 hx)).mpr (h x (by simp [hx]))
    rw [List.length_erase_of_mem ha] at this
    have := List.length_pos_of_mem ha
    simp; omega
theorem flat_nv (l : List Nat) : (nv l).all flatV = true := by simp [nv, flatV]
theorem inV_nv (q : Nat) (l : List Nat) : inV (V.int (q : Nat)) (nv l) = decide (q ∈ l) := by
  unfold inV
  rw [Bool.eq_iff_iff, List.any_eq_true, decide_eq_true_iff]
  constructor
  · rintro ⟨x, hx, e⟩
    obtain ⟨n, hn, rfl⟩ := List.mem_map.mp hx
    have : ((n : Int) == (q : Int)) = true := e
    have : n = q := Int.ofNat_inj.mp (by simpa using this)
    exact this ▸ hn
  · intro h
    exact ⟨_, List.mem_map.mpr ⟨q, h, rfl⟩, by show ((q : Int) == (q : Int)) = true; simp⟩
theorem c_law_graph (T : Tx K mg) : Cal P w K mg base 2 "_law_graph" (sp_law_graph K) [] := by
  have c_law_signs := c_law_signs (P := P) (w := w) (base := base) T
  obtain ⟨fd, F⟩ := T.d_law_graph
  refine calD F T.g_law_graph (fun _ _ _ _ _ _ us hl => match us, hl with | [_, _], _ => rfl) sc_law_graph (fun vs H Q E h => ?_) (fun cdv A outer s H vs Q E hr h => ?_)
  · obtain ⟨acts, l, as, D, rfl, _⟩ := h
    rfl
  · obtain ⟨acts, l, as, D, rfl, hl, hD, ha0, ha, hs, ht, k⟩ := h
    have hu := hu_of hr
    refine ⟨_, (pss_cons (ps_par (i := 2) (j := 3) rfl sc_law_graph.nd rfl rfl (by decide) rfl rfl (pa_cons (pe_lst pa_nil) (pa_cons pe_int pa_nil)) (by rfl))
      (pss_cons (ps_for PassesOwn.never rfl (pi_list (pv 1)) (pg_name (i := 4) sc_law_graph.nd rfl (Or.inl rfl)) (pss_cons (ps_set (i := 5) sc_law_graph.nd rfl (Or.inl rfl) pe_int)
      (pss_one (ps_for PassesOwn.never rfl (pi_enumT rfl T.z_enumerate (pa_cons (pv 4) pa_nil)) (pg_tup rfl (pgs_cons (pg_name (i := 6) sc_law_graph.nd rfl (Or.inl rfl)) (pgs_cons (pg_name (i := 7) sc_law_graph.nd rfl (Or.inl rfl)) pgs_nil))) (pss_cons (ps_set (i := 8) sc_law_graph.nd rfl (Or.inl rfl) (pe_ifExp (pt_cmpR op_lt (pe_op op_add (pv 6) pe_int) (pe_callB call_len_seq rfl T.z_len (by decide +kernel) (pa_cons (pv 4) pa_nil)) (nomark _)) (pv 3) pe_int))
      (pss_cons (ps_set (i := 3) sc_law_graph.nd rfl (Or.inl rfl) (pe_op op_add (pv 3) (pe_callTy call_int1 rfl T.z_int (by decide +kernel) (pa_cons (pe_cmpR op_lt (pe_op op_add (pv 6) pe_int) (pe_callB call_len_seq rfl T.z_len (by decide +kernel) (pa_cons (pv 4) pa_nil)) (nomark _)) pa_nil))))
      (pss_cons (ps_set (i := 2) sc_law_graph.nd rfl (Or.inl rfl) (pe_op op_cat (pv 2) (pe_lst (pa_cons (pe_tup (pa_cons (pv 5) (pa_cons (pv 7) (pa_cons (pv 8) pa_nil)))) (pa_cons (pe_tup (pa_cons (pv 8) (pa_cons (pe_un un_neg (pv 7)) (pa_cons (pv 5) pa_nil)))) pa_nil)))))
      (pss_one (ps_set (i := 5) sc_law_graph.nd rfl (Or.inl rfl) (pv 8))))))))))
      (pss_cons (ps_set (i := 9) sc_law_graph.nd rfl (Or.inl rfl) (pe_tup (pa_cons pe_int (pa_cons pe_int pa_nil))))
      (pss_cons (ps_while PassesOwn.never (pt_cmpR op_notN (pv 9) pe_non (nomark _)) (pss_cons (ps_par (i := 10) (j := 9) rfl sc_law_graph.nd rfl rfl (by decide) rfl rfl (pa_cons pe_dnewT (pa_cons pe_non pa_nil)) (by rfl))
      (pss_cons (ps_for PassesOwn.never rfl (pi_list (pv 2)) (pg_tup rfl (pgs_cons (pg_name (i := 5) sc_law_graph.nd rfl (Or.inl rfl)) (pgs_cons (pg_name (i := 7) sc_law_graph.nd rfl (Or.inl rfl)) (pgs_cons (pg_name (i := 8) sc_law_graph.nd rfl (Or.inl rfl)) pgs_nil)))) (pss_cons (ps_if (PW.pt (pw_and (pt_cmp (pc_din hu (pe_tup (pa_cons (pv 5) (pa_cons (pv 7) pa_nil))) (pv 10))) (pw_and1 (pt_cmpR op_ne (pe_dget hu (pv 10) (pe_tup (pa_cons (pv 5) (pa_cons (pv 7) pa_nil))) (fun _ _ => rfl)) (pv 8) (nomark _))))) (pss_one (ps_set (i := 9) sc_law_graph.nd rfl (Or.inl rfl) (pe_callTy call_tupleR rfl T.z_tuple (by decide +kernel) (pa_cons (pe_callB cr_sorted rfl T.z_sorted (by decide +kernel) (pa_cons (pe_lst (pa_cons (pe_dget hu (pv 10) (pe_tup (pa_cons (pv 5) (pa_cons (pv 7) pa_nil))) (fun _ _ => rfl)) (pa_cons (pv 8) pa_nil))) pa_nil)) pa_nil)))) pss_nil)
      (pss_one (ps_dput hu (pv 10) (pe_tup (pa_cons (pv 5) (pa_cons (pv 7) pa_nil))) (pv 8) rfl))))
      (pss_one (ps_if (pt_cmpR op_notN (pv 9) pe_non (nomark _)) (pss_cons (ps_set (i := 11) sc_law_graph.nd rfl (Or.inl rfl) (pe_lst pa_nil))
      (pss_cons (ps_for PassesOwn.never rfl (pi_list (pv 2)) (pg_tup rfl (pgs_cons (pg_name (i := 5) sc_law_graph.nd rfl (Or.inl rfl)) (pgs_cons (pg_name (i := 7) sc_law_graph.nd rfl (Or.inl rfl)) (pgs_cons (pg_name (i := 8) sc_law_graph.nd rfl (Or.inl rfl)) pgs_nil)))) (pss_one (ps_expr (pe_bm PySem.F.plainAttrs_list PySem.F.slot_list_append PySem.F.type_list_append mt_append (pv 11) (pa_cons (pe_tup (pa_cons (pe_ifExp (pt_cmpR op_eq (pv 5) (pe_ix ix_tup (pv 9) pe_int (fun _ _ => rfl)) (nomark _)) (pe_ix ix_tup (pv 9) pe_int (fun _ _ => rfl)) (pv 5)) (pa_cons (pv 7) (pa_cons (pe_ifExp (pt_cmpR op_eq (pv 8) (pe_ix ix_tup (pv 9) pe_int (fun _ _ => rfl)) (nomark _)) (pe_ix ix_tup (pv 9) pe_int (fun _ _ => rfl)) (pv 8)) pa_nil)))) pa_nil)))))
      (pss_one (ps_set (i := 2) sc_law_graph.nd rfl (Or.inl rfl) (pe_callTy (call_list_dT rfl) rfl T.z_list (by decide +kernel) (pa_cons (pe_callTy (call_dictT rfl hr.units) rfl T.z_dict (by decide +kernel) (pa_cons (pe_lc (own := [("edge", 18)]) rfl sc_law_graph.nd (pi_list (pv 11)) (blkOk_by (own := [("edge", 18)]) (N := ["acts", "doings", "edges", "many", "doing", "here", "k", "sign", "late", "gone", "known", "some", "leads", "line", "found", "row", "places", "act", "edge"]) (sc := defScope s_law_graph) (by decide +kernel)) (fun _ _ _ _ _ => (pg_name (i := 18) sc_law_graph.nd rfl (Or.inl rfl))) (fun _ _ _ _ _ => pts_nil) (fun _ _ _ _ _ => (pe_tup (pa_cons (pv 18) (pa_cons pe_int pa_nil))))) pa_nil)) pa_nil)))))) pss_nil)))))
      (pss_cons (ps_asg (pe_tup (pa_cons (pe_callTy (call_dictT rfl hr.units) rfl T.z_dict (by decide +kernel) (pa_cons (pe_lc (own := [("here", 5), ("sign", 7), ("late", 8)]) (g := gTup K 3 (gCons (gName 5) (gCons (gName 7) (gCons (gName 8) gNil)))) rfl sc_law_graph.nd (pi_list (pv 2)) (blkOk_by (own := [("here", 5), ("sign", 7), ("late", 8)]) (N := ["acts", "doings", "edges", "many", "doing", "here", "k", "sign", "late", "gone", "known", "some", "leads", "line", "found", "row", "places", "act", "edge"]) (sc := defScope s_law_graph) (by decide +kernel)) (fun _ _ _ _ _ => (pg_tup rfl (pgs_cons (pg_name (i := 5) sc_law_graph.nd rfl (Or.inl rfl)) (pgs_cons (pg_name (i := 7) sc_law_graph.nd rfl (Or.inl rfl)) (pgs_cons (pg_name (i := 8) sc_law_graph.nd rfl (Or.inl rfl)) pgs_nil))))) (fun _ _ _ _ _ => pts_nil) (fun _ _ _ _ _ => (pe_tup (pa_cons (pe_tup (pa_cons (pv 5) (pa_cons (pv 7) pa_nil))) (pa_cons (pv 8) pa_nil))))) pa_nil)) (pa_cons (pe_lst (pa_cons pe_int pa_nil)) (pa_cons (pe_lst pa_nil) pa_nil)))) (pg_tup rfl (pgs_cons (pg_name (i := 12) sc_law_graph.nd rfl (Or.inl rfl)) (pgs_cons (pg_name (i := 13) sc_law_graph.nd rfl (Or.inr rfl)) (pgs_cons (pg_name (i := 14) sc_law_graph.nd rfl (Or.inl rfl)) pgs_nil)))))
      (pss_cons (ps_while PassesOwn.never (pt_cmpR op_lt (pe_callB call_len_seq rfl T.z_len (by decide +kernel) (pa_cons (pv 14) pa_nil)) (pe_callB call_len_seq rfl T.z_len (by decide +kernel) (pa_cons (pv 13) pa_nil)) (nomark _)) (pss_cons (ps_set (i := 15) sc_law_graph.nd rfl (Or.inl rfl) (pe_lst pa_nil))
      (pss_cons (ps_for PassesOwn.never rfl (pi_list (pe_c c_law_signs hr (by decide) rfl (pa_cons (pv 0) pa_nil))) (pg_name (i := 7) sc_law_graph.nd rfl (Or.inl rfl)) (pss_cons (ps_set (i := 8) sc_law_graph.nd rfl (Or.inl rfl) (pe_dget1 hu (pv 12) (pe_tup (pa_cons (pe_ix ix_list (pv 13) (pe_callB call_len_seq rfl T.z_len (by decide +kernel) (pa_cons (pv 14) pa_nil)) (fun _ _ => rfl)) (pa_cons (pv 7) pa_nil))) ⟨by rfl, by rfl, by rfl, by rfl⟩))
      (pss_cons (ps_set (i := 13) sc_law_graph.nd rfl (Or.inr rfl) (pe_op op_cat (pv 13) (pe_op op_rep (pe_lst (pa_cons (pv 8) pa_nil)) (pe_callTy call_int1 rfl T.z_int (by decide +kernel) (pa_cons (pe_and (pe_cmpR op_notN (pv 8) pe_non (nomark _)) (pe_one (pe_cmpR op_notIn_seq (pv 8) (pv 13) (by rfl)))) pa_nil)))))
      (pss_one (ps_expr (pe_bm PySem.F.plainAttrs_list PySem.F.slot_list_append PySem.F.type_list_append mt_append (pv 15) (pa_cons (pv 8) pa_nil)))))))
      (pss_one (ps_expr (pe_bm PySem.F.plainAttrs_list PySem.F.slot_list_append PySem.F.type_list_append mt_append (pv 14) (pa_cons (pv 15) pa_nil)))))))
      (pss_cons (ps_setLc (i := 16) (own := [("row", 15)]) (te := (tLc (iList K (tVar 15)) (gName 8) tYes (tIf (tTest (tOp (fun x y H Q => y = V.non ∧ Q (V.bl (!decide (x = V.non))) H) (tVar 8) (tC V.non))) (tBM K "list" (rIndex K) (tVar 13) (tCons (tVar 8) tNil)) (tC V.non)) [8])) rfl sc_law_graph.nd rfl rfl (sw_true rfl rfl rfl (by decide +kernel)) (pi_list (pv 14)) (blkOk_by (own := [("row", 15)]) (N := ["acts", "doings", "edges", "many", "doing", "here", "k", "sign", "late", "gone", "known", "some", "leads", "line", "found", "row", "places", "act", "edge"]) (sc := defScope s_law_graph) (by decide +kernel)) (fun _ _ _ _ _ => (pg_name (i := 15) sc_law_graph.nd rfl (Or.inl rfl))) (fun _ _ _ _ _ => pts_nil) (fun _ _ _ _ _ => (pe_lc (own := [("late", 8)]) (te := (tIf (tTest (tOp (fun x y H Q => y = V.non ∧ Q (V.bl (!decide (x = V.non))) H) (tVar 8) (tC V.non))) (tBM K "list" (rIndex K) (tVar 13) (tCons (tVar 8) tNil)) (tC V.non))) rfl sc_law_graph.nd (pi_list (pv 15)) (blkOk_by (own := [("late", 8)]) (N := ["acts", "doings", "edges", "many", "doing", "here", "k", "sign", "late", "gone", "known", "some", "leads", "line", "found", "row", "places", "act", "edge"]) (by rfl)) (fun _ _ _ _ _ => (pg_name (i := 8) sc_law_graph.nd rfl (Or.inl rfl))) (fun _ _ _ _ _ => pts_nil) (fun _ _ _ _ _ => (pe_ifExp (pt_cmpR op_notN (pv 8) pe_non (nomark _)) (pe_bm PySem.F.plainAttrs_list PySem.F.slot_list_index PySem.F.type_list_index mt_index (pv 13) (pa_cons (pv 8) pa_nil)) pe_non)))))
      (pss_one (ps_ret (pe_callTy call_tupleR rfl T.z_tuple (by decide +kernel) (pa_cons (pe_lc (own := [("row", 15)]) (te := (tCB (fun xs H Q => ∃ p ys, xs = [V.ref p] ∧ (SqL K H p ys ∨ SqT K H p ys) ∧ RetT K ys H Q) (tCons (tLc (iRng1 (tCons (tVar 0) tNil)) (gName 17) tYes (tTup (tCons (tOp (rIxL K) (tVar 15) (tOp (rI CMul fun i j => V.int (i * j)) (tC (V.int 2)) (tVar 17))) (tCons (tOp (rIxL K) (tVar 15) (tOp (rI0 fun i j => V.int (i + j)) (tOp (rI CMul fun i j => V.int (i * j)) (tC (V.int 2)) (tVar 17)) (tC (V.int 1)))) tNil))) [17]) tNil))) rfl sc_law_graph.nd (pi_list (pv 16)) (blkOk_by (own := [("row", 15)]) (N := ["acts", "doings", "edges", "many", "doing", "here", "k", "sign", "late", "gone", "known", "some", "leads", "line", "found", "row", "places", "act", "edge"]) (sc := defScope s_law_graph) (by decide +kernel)) (fun _ _ _ _ _ => (pg_name (i := 15) sc_law_graph.nd rfl (Or.inr rfl))) (fun _ _ _ _ _ => pts_nil) (fun _ _ _ _ _ => (pe_callTy call_tupleR rfl T.z_tuple (by decide +kernel) (pa_cons (pe_lc (own := [("act", 17)]) (te := (tTup (tCons (tOp (rIxL K) (tVar 15) (tOp (rI CMul fun i j => V.int (i * j)) (tC (V.int 2)) (tVar 17))) (tCons (tOp (rIxL K) (tVar 15) (tOp (rI0 fun i j => V.int (i + j)) (tOp (rI CMul fun i j => V.int (i * j)) (tC (V.int 2)) (tVar 17)) (tC (V.int 1)))) tNil)))) rfl sc_law_graph.nd (pi_range1 rfl T.z_range (pa_cons (pv 0) pa_nil)) (blkOk_by (own := [("act", 17)]) (N := ["acts", "doings", "edges", "many", "doing", "here", "k", "sign", "late", "gone", "known", "some", "leads", "line", "found", "row", "places", "act", "edge"]) (by rfl)) (fun _ _ _ _ _ => (pg_name (i := 17) sc_law_graph.nd rfl (Or.inl rfl))) (fun _ _ _ _ _ => pts_nil) (fun _ _ _ _ _ => (pe_tup (pa_cons (pe_ix ix_list (pv 15) (pe_op op_mul pe_int (pv 17)) (fun _ _ => rfl)) (pa_cons (pe_ix ix_list (pv 15) (pe_op op_add (pe_op op_mul pe_int (pv 17)) pe_int) (fun _ _ => rfl)) pa_nil))))) pa_nil)))) pa_nil))))))))))), ?_⟩
    have big : (10000000 : Nat) < sizeLine := by decide
    refine ⟨Nat.zero_le _, fun ed0 hed0 => ?_⟩
    refine ⟨_, _, rfl, ?_⟩
    refine ⟨_, rfl, l, rfl, ⟨_, SqL.of ((Same.new hed0) _ _ hl)⟩, ?_⟩
    refine for_list (K := K) (a := l) (xs := rv as) (fun i σ H' => ∃ (ed : Addr) (ts : List Addr) (v4 v5 v6 v7 v8 : Option V), σ = [some (.int (acts : Nat)), some (.ref l), some (.ref ed), some (.int ((flowerE 1 (D.take i)).2 : Nat)), v4, v5, v6, v7, v8, none, none, none, none, none, none, none, none, none, none] ∧ Same H H' ∧ H' ed = some (.lst (rv ts)) ∧ EdAt H' ts (flowerE 1 (D.take i)).1)
      ⟨ed0, [], _, _, _, _, _, rfl, Same.new hed0, upd_same, .nil⟩ (fun i σ H' _ ⟨_, _, _, _, _, _, _, _, s1, _⟩ => SqL.of (s1 _ _ hl)) ?_ ?_
    · rintro i x σ H' hx ⟨ed, ts, v4, v5, v6, v7, v8, rfl, s1, q1, q2⟩
      obtain ⟨a, d, hia, rfl, hd, hT⟩ := hD.get hx
      have et : D.take (i + 1) = D.take i ++ [d] := by rw [List.take_add_one, hd]; rfl
      rw [et, flowerE_snoc]
      have ln := flowerE_len (D.take (i + 1)) 1
      have tt := (total_take D hd).2
      rw [et] at tt
      rw [et, flowerE_snoc] at ln
      generalize (flowerE 1 (D.take i)).1 = E0 at *
      generalize (flowerE 1 (D.take i)).2 = m0 at *
      simp only at ln ⊢
      refine ⟨_, rfl, a, iv d, rfl, s1.tup hT, ?_⟩
      refine for_it (walk_enumT (xs := iv d)) (fun j σ H' => ∃ (ed : Addr) (ts : List Addr) (h m : Nat) (E : List Edge) (v6 v7 v8 : Option V), σ = [some (.int (acts : Nat)), some (.ref l), some (.ref ed), some (.int (m : Nat)), some (.ref a), some (.int (h : Nat)), v6, v7, v8, none, none, none, none, none, none, none, none, none, none] ∧ Same H H' ∧ H' ed = some (.lst (rv ts)) ∧ EdAt H' ts E ∧
        E ++ (loopE h m (d.drop j)).1 = E0 ++ (loopE 0 m0 d).1 ∧ (loopE h m (d.drop j)).2 = (loopE 0 m0 d).2) ⟨ed, ts, 0, m0, E0, _, _, _, rfl, s1, q1, q2, rfl, rfl⟩ (fun j σ H' _ ⟨_, _, _, _, _, _, _, _, _, s1, _⟩ => s1.tup hT) ?_ ?_
      · rintro j v σ H' H'' hj ⟨ed, ts, h, m, E, v6, v7, v8, rfl, s1, q1, q2, q3, q4⟩ ⟨T', u1, u2, rfl, hT', rfl, hu1, hu2⟩
        rw [iv_len] at hj
        obtain ⟨z, hz, rfl⟩ := iv_at hu2
        cases hu1
        have s2 : Same H' (L2.upd H' T' (.tup [.int (j : Nat), .int z])) := Same.new hT'
        have ed' : d.drop j = z :: d.drop (j + 1) := by
          obtain ⟨h1, h2⟩ := List.getElem?_eq_some_iff.mp hz
          rw [List.drop_eq_getElem_cons h1, h2]
        have lq := congrArg List.length q3
        rw [List.length_append, ln] at lq
        have tl := q2.len
        refine ⟨T', _, rfl, SqT.of upd_same, rfl, _, _, rfl, _, _, rfl, rfl, ?_⟩
        have hT2 := s2.tup (s1.tup hT)
        have p1 := s2 _ _ q1
        have p2 := q2.go s2
        have s3 := s1.trans s2
        generalize L2.upd H' T' (.tup [.int (j : Nat), .int z]) = H2 at *
        refine ⟨_, rfl, _, _, rfl, rfl, _, rfl, a, _, rfl, .inr hT2, _, _, rfl, rfl, _, rfl, ?_⟩
        have ej : ((j : Int) + 1 < ((iv d).length : Nat)) ↔ j + 1 < d.length := by rw [iv_len]; omega
        refine ite2 (fun c1 => ?_) (fun c1 => ?_)
        · have lt := ej.mp (of_decide_eq_true c1)
          obtain ⟨t, r, er⟩ : ∃ t r, d.drop (j + 1) = t :: r := ⟨_, _, List.drop_eq_getElem_cons lt⟩
          obtain ⟨late, el⟩ : ∃ late : Nat, late = m := ⟨_, rfl⟩
          refine ⟨_, rfl, ?_⟩
          have em : (late : Int) + (if decide ((j : Int) + 1 < ((iv d).length : Nat)) = true then 1 else 0) = ((m + 1 : Nat) : Int) := by rw [if_pos c1, el]; omega
          have e5 : E ++ [(h, z, late), (late, -z, h)] ++ (loopE late (m + 1) (d.drop (j + 1))).1 = E0 ++ (loopE 0 m0 d).1 := by
            rw [← q3, ed', er, el]; simp [loopE]
          have e6 : (loopE late (m + 1) (d.drop (j + 1))).2 = (loopE 0 m0 d).2 := by
            rw [← q4, ed', er, el]; simp [loopE]
          rw [← el]
          generalize m + 1 = m' at *
          refine ⟨_, rfl, _, rfl, _, _, rfl, rfl, _, rfl, a, _, rfl, .inr hT2, _, _, rfl, rfl, .inr ⟨_, rfl, _, _, rfl, rfl, ?_⟩⟩
          dsimp only
          rw [em]
          refine ⟨_, rfl, _, rfl, _, rfl, _, rfl, by show 3 ≤ sizeLine; decide, fun t1 ht1 => ?_⟩
          refine ⟨_, rfl, _, rfl, _, rfl, _, rfl, by show 3 ≤ sizeLine; decide, fun t2 ht2 => ?_⟩
          refine ⟨by show 2 ≤ sizeLine; decide, fun l2 hl2 => ?_⟩
          have s4 : Same H2 (L2.upd H2 t1 (.tup [.int (h : Nat), .int z, .int (late : Nat)])) := Same.new ht1
          have s5 : Same _ (L2.upd (L2.upd H2 t1 (.tup [.int (h : Nat), .int z, .int (late : Nat)])) t2 (.tup [.int (late : Nat), .int (-z), .int (h : Nat)])) := Same.new ht2
          have s6 := Same.new (o := .lst [.ref t1, .ref t2]) hl2
          have p3 := s6 _ _ (s5 _ _ (s4 _ _ p1))
          have p4 := ((p2.go s4).go s5).go s6
          refine ⟨ed, l2, _, _, rfl, rfl, p3, upd_same, by rw [rv_len, tl]; show _ + 2 ≤ sizeLine; omega, fun ed2 hed2 => ?_⟩
          have s7 := Same.new (o := .lst (rv ts ++ [.ref t1, .ref t2])) hed2
          have g1 := s6 _ _ (s5 _ _ (upd_same (H := H2) (a := t1) (o := .tup [.int (h : Nat), .int z, .int (late : Nat)])))
          have g2 := s6 _ _ (upd_same (H := L2.upd H2 t1 (.tup [.int (h : Nat), .int z, .int (late : Nat)])) (a := t2) (o := .tup [.int (late : Nat), .int (-z), .int (h : Nat)]))
          have p5 : EdAt _ ((ts ++ [t1]) ++ [t2]) ((E ++ [(h, z, late)]) ++ [(late, -z, h)]) := Paired.snoc (Paired.snoc p4 g1) g2
          have p6 := EdAt.go p5 s7
          refine ⟨_, rfl, ed2, (ts ++ [t1]) ++ [t2], late, m', (E ++ [(h, z, late)]) ++ [(late, -z, h)], _, _, _, rfl, (((s3.trans s4).trans s5).trans s6).trans s7, by rw [upd_same]; simp [rv], p6, ?_, e6⟩
          rw [← e5]; simp
        · have ge : ¬ (j + 1 < d.length) := fun y => c1 (decide_eq_true (ej.mpr y))
          have er : d.drop (j + 1) = [] := List.drop_eq_nil_of_le (by omega)
          let late : Nat := 0
          let m' : Nat := m
          have em : (m : Int) + (if decide ((j : Int) + 1 < ((iv d).length : Nat)) = true then 1 else 0) = (m' : Nat) := by rw [if_neg c1]; show (m : Int) + 0 = (m : Nat); omega
          have e5 : E ++ [(h, z, late), (late, -z, h)] ++ (loopE late m' (d.drop (j + 1))).1 = E0 ++ (loopE 0 m0 d).1 := by
            rw [← q3, ed', er]; simp [loopE, late]
          have e6 : (loopE late m' (d.drop (j + 1))).2 = (loopE 0 m0 d).2 := by
            rw [← q4, ed', er]; simp [loopE, m']
          refine ⟨_, rfl, _, rfl, _, _, rfl, rfl, _, rfl, a, _, rfl, .inr hT2, _, _, rfl, rfl, .inr ⟨_, rfl, _, _, rfl, rfl, ?_⟩⟩
          dsimp only
          rw [em]
          refine ⟨_, rfl, _, rfl, _, rfl, _, rfl, by show 3 ≤ sizeLine; decide, fun t1 ht1 => ?_⟩
          refine ⟨_, rfl, _, rfl, _, rfl, _, rfl, by show 3 ≤ sizeLine; decide, fun t2 ht2 => ?_⟩
          refine ⟨by show 2 ≤ sizeLine; decide, fun l2 hl2 => ?_⟩
          have s4 : Same H2 (L2.upd H2 t1 (.tup [.int (h : Nat), .int z, .int (late : Nat)])) := Same.new ht1
          have s5 : Same _ (L2.upd (L2.upd H2 t1 (.tup [.int (h : Nat), .int z, .int (late : Nat)])) t2 (.tup [.int (late : Nat), .int (-z), .int (h : Nat)])) := Same.new ht2
          have s6 := Same.new (o := .lst [.ref t1, .ref t2]) hl2
          have p3 := s6 _ _ (s5 _ _ (s4 _ _ p1))
          have p4 := ((p2.go s4).go s5).go s6
          refine ⟨ed, l2, _, _, rfl, rfl, p3, upd_same, by rw [rv_len, tl]; show _ + 2 ≤ sizeLine; omega, fun ed2 hed2 => ?_⟩
          have s7 := Same.new (o := .lst (rv ts ++ [.ref t1, .ref t2])) hed2
          have g1 := s6 _ _ (s5 _ _ (upd_same (H := H2) (a := t1) (o := .tup [.int (h : Nat), .int z, .int (late : Nat)])))
          have g2 := s6 _ _ (upd_same (H := L2.upd H2 t1 (.tup [.int (h : Nat), .int z, .int (late : Nat)])) (a := t2) (o := .tup [.int (late : Nat), .int (-z), .int (h : Nat)]))
          have p5 : EdAt _ ((ts ++ [t1]) ++ [t2]) ((E ++ [(h, z, late)]) ++ [(late, -z, h)]) := Paired.snoc (Paired.snoc p4 g1) g2
          have p6 := EdAt.go p5 s7
          refine ⟨_, rfl, ed2, (ts ++ [t1]) ++ [t2], late, m', (E ++ [(h, z, late)]) ++ [(late, -z, h)], _, _, _, rfl, (((s3.trans s4).trans s5).trans s6).trans s7, by rw [upd_same]; simp [rv], p6, ?_, e6⟩
          rw [← e5]; simp
      · rintro σ H' ⟨ed, ts, h, m, E, v6, v7, v8, rfl, s1, q1, q2, q3, q4⟩
        rw [iv_len, List.drop_length] at q3 q4
        have q3 : E ++ [] = _ := q3
        have q4 : m = _ := q4
        rw [List.append_nil] at q3
        rw [q3] at q2
        rw [← q4]
        exact ⟨ed, ts, _, _, _, _, _, rfl, s1, q1, q2⟩
    · rintro σ H' ⟨ed, ts, v4, v5, v6, v7, v8, rfl, s1, q1, q2⟩
      rw [rv_len, hD.1, List.take_length] at q2 ⊢
      have eln : (flowerE 1 D).1.length = 2 * total D := flowerE_len D 1
      have n0l := FG.all_len D 1
      have lap0 : Lap (flower D) (flowerE 1 D).1 id (List.range (flowerE 1 D).2) := Lap.start (FG.flowerE_lt D 1 (by omega))
      generalize (flowerE 1 D).2 = n0 at *
      refine ⟨by show 2 ≤ sizeLine; decide, fun g0 hg0 => ?_⟩
      refine ⟨fun m σ H' => ∃ (ed : Addr) (ts : List Addr) (E : List Edge) (μ : Nat → Nat) (L : List Nat) (gv : V) (v3 v4 v5 v6 v7 v8 v10 v11 : Option V), σ = [some (.int (acts : Nat)), some (.ref l), some (.ref ed), v3, v4, v5, v6, v7, v8, some gv, v10, v11, none, none, none, none, none, none, none] ∧ Same H H' ∧ H' ed = some (.lst (rv ts)) ∧ EdAt H' ts E ∧
        Lap (flower D) E μ L ∧ E.length ≤ 2 * total D ∧ L.length ≤ n0 ∧ ((gv ≠ .non ∧ m = L.length + 1) ∨ (gv = .non ∧ Func E ∧ m = 0)), ⟨n0 + 1, ed, ts, _, id, _, .ref g0, _, _, _, _, _, _, _, _, rfl, s1.trans (Same.new hg0), Same.new hg0 _ _ q1, q2.go (Same.new hg0), lap0, by omega, by simp, .inl ⟨(fun z => by cases z), by simp⟩⟩, ?_⟩
      rintro m σ H' ⟨ed, ts, E, μ, L, gv, v3, v4, v5, v6, v7, v8, v10, v11, rfl, s1, q1, q2, q3, q4, q5, q6⟩
      have tl := q2.len
      refine ⟨_, rfl, rfl, _, rfl, ?_⟩
      refine ite2 (fun c1 => ?_) (fun c1 => ?_)
      · have gn : gv ≠ .non := ne_yes c1
        have hm : m = L.length + 1 := by
          rcases q6 with ⟨_, z⟩ | ⟨z, _⟩
          · exact z
          · exact absurd z gn
        refine ⟨_, fun _ _ z => z, ?_⟩
        intro kn hkn
        refine ⟨_, _, rfl, ?_⟩
        have s2 : Same H' (L2.upd H' kn (.dT [])) := Same.new hkn
        have nkn : H kn = none := s1.free hkn
        have dk : kn ≠ ed := (ne_of_none q1 hkn).symm
        refine ⟨_, rfl, ed, rfl, ⟨_, SqL.of (s2 _ _ q1)⟩, ?_⟩
        refine for_list (K := K) (a := ed) (xs := rv ts) (fun i σ H2 => ∃ (g : Option (Nat × Nat)) (gv : V) (kvs : List (List Key × V)) (v5 v7 v8 : Option V), σ = [some (.int (acts : Nat)), some (.ref l), some (.ref ed), v3, v4, v5, v6, v7, v8, some gv, some (.ref kn), v11, none, none, none, none, none, none, none] ∧ Same H H2 ∧ H2 ed = some (.lst (rv ts)) ∧ EdAt H2 ts E ∧
          H2 kn = some (.dT kvs) ∧ Leads kvs (E.take i) ∧ Look (E.take i) g ∧ (g = none → gv = .non) ∧ (∀ a b, g = some (a, b) → ∃ t, gv = .ref t ∧ SqT K H2 t [.int (a : Nat), .int (b : Nat)])) ⟨none, .non, [], _, _, _, rfl, s1.trans s2, s2 _ _ q1, q2.go s2, upd_same, .nil, (by intro P s Q Q' z; simp at z), fun _ => rfl, fun _ _ z => (nomatch z)⟩ (fun i σ H2 _ ⟨_, _, _, _, _, _, _, _, u1, _⟩ => SqL.of u1) ?_ ?_
        · rintro i x σ H2 hx ⟨g, gv, kvs, v5, v7, v8, rfl, u0, u1, u2, u3, u4, u5, u6, u7⟩
          obtain ⟨t, Pn, z, Qn, ht, rfl, hE, hT⟩ := u2.get hx
          have et : E.take (i + 1) = E.take i ++ [(Pn, z, Qn)] := by rw [List.take_add_one, hE]; rfl
          have il := (List.getElem?_eq_some_iff.mp hE).1
          refine ⟨t, _, rfl, SqT.of hT, rfl, _, _, rfl, _, _, rfl, _, _, rfl, rfl, ?_⟩
          refine ⟨_, rfl, _, rfl, by show 2 ≤ sizeLine; decide, fun q hq => ?_⟩
          have w1 : Same H2 (L2.upd H2 q (.tup [.int (Pn : Nat), .int z])) := Same.new hq
          refine ⟨_, rfl, kn, _, rfl, DGet.t (k := kq Pn z) (w1 _ _ u3) upd_same, _, rfl, ?_⟩
          rw [u4.1]
          have klen := u4.2
          rw [List.length_take] at klen
          generalize L2.upd H2 q (.tup [.int (Pn : Nat), .int z]) = H3 at *
          cases e : lastOf (E.take i) Pn z with
          | none =>
            refine iteF ?_
            refine iteF ?_
            have lk : Look (E.take i ++ [(Pn, z, Qn)]) g := u5.skip fun q0 e0 => by rw [e] at e0; cases e0
            have u7' : ∀ a b, g = some (a, b) → ∃ t, gv = .ref t ∧ SqT K H3 t [.int (a : Nat), .int (b : Nat)] := fun a b h => let ⟨t, h1, h2⟩ := u7 a b h; ⟨t, h1, w1.tup h2⟩
            refine ⟨_, rfl, _, rfl, _, rfl, _, rfl, by show 2 ≤ sizeLine; decide, fun q4 hq4 => ?_⟩
            have w8 : Same H3 (L2.upd H3 q4 (.tup [.int (Pn : Nat), .int z])) := Same.new hq4
            have k1 := w8 _ _ (w1 _ _ u3)
            refine ⟨kn, _, rfl, DPut.t (k := kq Pn z) k1 upd_same (by omega), ?_⟩
            have w9 := w1.trans w8
            have k2 : Same H (L2.upd (L2.upd H3 q4 (.tup [.int (Pn : Nat), .int z])) kn (.dT (putK kvs (kq Pn z) (.int (Qn : Nat))))) := same_upd (u0.trans w9) nkn
            refine ⟨g, gv, _, _, _, _, rfl, k2, by rw [upd_ne dk.symm]; exact w9 _ _ u1, (u2.go w9).upd k1 (fun _ z => by cases z), upd_same, ?_, ?_, u6, fun a b h => ?_⟩
            · rw [et]; exact u4.put Pn z Qn
            · rw [et]; exact lk
            · obtain ⟨t, h1, h2⟩ := u7' a b h
              exact ⟨t, h1, sqt_upd (w8.tup h2) k1 (fun z => by cases z) (fun _ z => by cases z)⟩
          | some q0 =>
            refine iteT ?_
            have get : ∀ {H4 : Hp} {b : Addr}, Same H3 H4 → H4 b = some (.tup [.int (Pn : Nat), .int z]) → DGet H4 kn (.ref b) (some (.int (q0 : Nat))) := fun {H4 b} w hb => by
              have := DGet.t (k := kq Pn z) (w _ _ (w1 _ _ u3)) hb
              rw [u4.1, e] at this
              exact this
            refine ⟨_, rfl, _, rfl, _, rfl, by show 2 ≤ sizeLine; decide, fun q2 hq2 => ?_⟩
            have w2 : Same H3 (L2.upd H3 q2 (.tup [.int (Pn : Nat), .int z])) := Same.new hq2
            refine ⟨kn, _, rfl, get w2 upd_same, _, rfl, rfl, _, rfl, ?_⟩
            have w12 := w1.trans w2
            generalize L2.upd H3 q2 (.tup [.int (Pn : Nat), .int z]) = H5 at *
            refine ite2 (fun c2 => ?_) (fun c2 => ?_)
            · have ne : q0 ≠ Qn := fun y => ne_yes c2 (by rw [y])
              refine ⟨_, rfl, _, rfl, _, rfl, by show 2 ≤ sizeLine; decide, fun q3 hq3 => ?_⟩
              have w3 : Same H5 (L2.upd H5 q3 (.tup [.int (Pn : Nat), .int z])) := Same.new hq3
              refine ⟨kn, _, rfl, get (w2.trans w3) upd_same, _, rfl, by show 2 ≤ sizeLine; decide, fun l3 hl3 => ?_⟩
              have w4 := Same.new (o := .lst [.int (q0 : Nat), .int (Qn : Nat)]) hl3
              refine ⟨l3, [(q0 : Int), (Qn : Int)], rfl, SqL.of upd_same, by show 2 < 64; decide, fun ns' sp pm so hsp => ?_⟩
              have e5 := pair_sorted pm so
              subst e5
              have w5 := Same.new (o := .lst [.int ((min q0 Qn : Nat) : Int), .int ((max q0 Qn : Nat) : Int)]) hsp
              refine ⟨sp, _, rfl, .inl (SqL.of upd_same), fun gt H4 w6 hgt => ?_⟩
              have lk := FG.Look.hit e ne
              have w1 := (((w12.trans w3).trans w4).trans w5).trans w6
              obtain ⟨g, eg⟩ : ∃ g, g = some (min q0 Qn, max q0 Qn) := ⟨_, rfl⟩
              rw [← eg] at lk
              have u6 : g = none → V.ref gt = .non := fun z => by rw [eg] at z; cases z
              have u7' : ∀ a b, g = some (a, b) → ∃ t, V.ref gt = .ref t ∧ SqT K H4 t [.int (a : Nat), .int (b : Nat)] := fun a b h => by
                rw [eg] at h
                cases h
                exact ⟨gt, rfl, hgt⟩
              generalize V.ref gt = gv at *
              generalize H4 = H3 at *
              refine ⟨_, rfl, _, rfl, _, rfl, _, rfl, by show 2 ≤ sizeLine; decide, fun q4 hq4 => ?_⟩
              have w8 : Same H3 (L2.upd H3 q4 (.tup [.int (Pn : Nat), .int z])) := Same.new hq4
              have k1 := w8 _ _ (w1 _ _ u3)
              refine ⟨kn, _, rfl, DPut.t (k := kq Pn z) k1 upd_same (by omega), ?_⟩
              have w9 := w1.trans w8
              have k2 : Same H (L2.upd (L2.upd H3 q4 (.tup [.int (Pn : Nat), .int z])) kn (.dT (putK kvs (kq Pn z) (.int (Qn : Nat))))) := same_upd (u0.trans w9) nkn
              refine ⟨g, gv, _, _, _, _, rfl, k2, by rw [upd_ne dk.symm]; exact w9 _ _ u1, (u2.go w9).upd k1 (fun _ z => by cases z), upd_same, ?_, ?_, u6, fun a b h => ?_⟩
              · rw [et]; exact u4.put Pn z Qn
              · rw [et]; exact lk
              · obtain ⟨t, h1, h2⟩ := u7' a b h
                exact ⟨t, h1, sqt_upd (w8.tup h2) k1 (fun z => by cases z) (fun _ z => by cases z)⟩
            · have eq : q0 = Qn := vnat.mp (ne_no c2)
              have lk : Look (E.take i ++ [(Pn, z, Qn)]) g := u5.skip fun q1 e1 => by rw [e] at e1; cases e1; exact eq
              have w1 := w12
              have u7' : ∀ a b, g = some (a, b) → ∃ t, gv = .ref t ∧ SqT K H5 t [.int (a : Nat), .int (b : Nat)] := fun a b h => let ⟨t, h1, h2⟩ := u7 a b h; ⟨t, h1, w1.tup h2⟩
              generalize H5 = H3 at *
              refine ⟨_, rfl, _, rfl, _, rfl, _, rfl, by show 2 ≤ sizeLine; decide, fun q4 hq4 => ?_⟩
              have w8 : Same H3 (L2.upd H3 q4 (.tup [.int (Pn : Nat), .int z])) := Same.new hq4
              have k1 := w8 _ _ (w1 _ _ u3)
              refine ⟨kn, _, rfl, DPut.t (k := kq Pn z) k1 upd_same (by omega), ?_⟩
              have w9 := w1.trans w8
              have k2 : Same H (L2.upd (L2.upd H3 q4 (.tup [.int (Pn : Nat), .int z])) kn (.dT (putK kvs (kq Pn z) (.int (Qn : Nat))))) := same_upd (u0.trans w9) nkn
              refine ⟨g, gv, _, _, _, _, rfl, k2, by rw [upd_ne dk.symm]; exact w9 _ _ u1, (u2.go w9).upd k1 (fun _ z => by cases z), upd_same, ?_, ?_, u6, fun a b h => ?_⟩
              · rw [et]; exact u4.put Pn z Qn
              · rw [et]; exact lk
              · obtain ⟨t, h1, h2⟩ := u7' a b h
                exact ⟨t, h1, sqt_upd (w8.tup h2) k1 (fun z => by cases z) (fun _ z => by cases z)⟩
        · rintro σ H2 ⟨g, gv, kvs, v5, v7, v8, rfl, u0, u1, u2, u3, u4, u5, u6, u7⟩
          rw [rv_len, tl, List.take_length] at u5
          refine ⟨_, rfl, rfl, _, rfl, ?_⟩
          cases g with
          | none =>
            have eg := u6 rfl
            subst eg
            refine iteF ?_
            exact ⟨0, by omega, ed, ts, E, μ, L, .non, _, _, _, _, _, _, _, _, rfl, u0, u1, u2, q3, q4, q5, .inr ⟨rfl, u5, rfl⟩⟩
          | some ab =>
            obtain ⟨a, b⟩ := ab
            obtain ⟨t, eg, hg⟩ := u7 a b rfl
            subst eg
            refine iteT ?_
            refine ⟨Nat.zero_le _, fun so hso => ?_⟩
            have w1 : Same H2 (L2.upd H2 so (.lst [])) := Same.new hso
            have dso : ed ≠ so := ne_of_none u1 hso
            refine ⟨_, rfl, ed, rfl, ⟨_, SqL.of (w1 _ _ u1)⟩, ?_⟩
            refine for_list (K := K) (a := ed) (xs := rv ts) (fun i σ H3 => ∃ (us : List Addr) (v5 v7 v8 : Option V), σ = [some (.int (acts : Nat)), some (.ref l), some (.ref ed), v3, v4, v5, v6, v7, v8, some (.ref t), some (.ref kn), some (.ref so), none, none, none, none, none, none, none] ∧ Same H2 H3 ∧
              H3 so = some (.lst (rv us)) ∧ EdAt H3 us ((E.take i).map (ren a b))) ⟨[], _, _, _, rfl, w1, upd_same, .nil⟩ (fun i σ H3 _ ⟨_, _, _, _, _, w, _⟩ => SqL.of (w _ _ u1)) ?_ ?_
            · rintro i x σ H3 hx ⟨us, v5, v7, v8, rfl, w2, w3, w4⟩
              obtain ⟨te, Pn, z, Qn, hte, rfl, hE, hT⟩ := (u2.go w2).get hx
              have il := (List.getElem?_eq_some_iff.mp hE).1
              have ul := w4.len
              rw [List.length_map, List.length_take] at ul
              have et : (E.take (i + 1)).map (ren a b) = (E.take i).map (ren a b) ++ [ren a b (Pn, z, Qn)] := by rw [List.take_add_one, hE]; simp
              have hg3 := w2.tup hg
              refine ⟨te, _, rfl, SqT.of hT, rfl, _, _, rfl, _, _, rfl, _, _, rfl, rfl, ?_⟩
              refine ⟨_, rfl, .inl ⟨rfl, _, SqL.of w3⟩, ?_⟩
              have fin : ∀ (v1 v2 : V), v1 = .int ((ren a b (Pn, z, Qn)).1 : Nat) → v2 = .int ((ren a b (Pn, z, Qn)).2.2 : Nat) → [v1, .int z, v2].length ≤ sizeLine ∧ ∀ u, H3 u = none → ∃ (l_1 : Addr) (xs : List V) (y : V), V.ref so = .ref l_1 ∧ [V.ref u] = [y] ∧ (L2.upd H3 u (.tup [v1, .int z, v2])) l_1 = some (.lst xs) ∧ xs.length < sizeLine ∧
                  ∃ (us : List Addr) (v5 v7 v8 : Option V), [some (.int (acts : Nat)), some (.ref l), some (.ref ed), v3, v4, some (.int (Pn : Nat)), v6, some (.int z), some (.int (Qn : Nat)), some (.ref t), some (.ref kn), some (.ref so), none, none, none, none, none, none, none] = [some (.int (acts : Nat)), some (.ref l), some (.ref ed), v3, v4, v5, v6, v7, v8, some (.ref t), some (.ref kn), some (.ref so), none, none, none, none, none, none, none] ∧ Same H2 (L2.upd (L2.upd H3 u (.tup [v1, .int z, v2])) l_1 (.lst (xs ++ [y]))) ∧ (L2.upd (L2.upd H3 u (.tup [v1, .int z, v2])) l_1 (.lst (xs ++ [y]))) so = some (.lst (rv us)) ∧ EdAt (L2.upd (L2.upd H3 u (.tup [v1, .int z, v2])) l_1 (.lst (xs ++ [y]))) us ((E.take (i + 1)).map (ren a b)) := fun v1 v2 e1 e2 => by
                subst e1 e2
                refine ⟨by show 3 ≤ sizeLine; decide, fun u hu' => ?_⟩
                have ns : so ≠ u := ne_of_none w3 hu'
                have w5 := Same.new (o := .tup [.int ((ren a b (Pn, z, Qn)).1 : Nat), .int z, .int ((ren a b (Pn, z, Qn)).2.2 : Nat)]) hu'
                have w6 := w5 _ _ w3
                refine ⟨so, rv us, .ref u, rfl, rfl, w6, by rw [rv_len]; omega, us ++ [u], _, _, _, rfl, same_upd (w2.trans w5) hso, by rw [upd_same]; simp [rv], ?_⟩
                rw [et]
                exact EdAt.upd (Paired.snoc (w4.go w5) upd_same) w6 (fun _ z => by cases z)
              refine ⟨_, rfl, _, rfl, t, _, _, _, rfl, rfl, hg3, at_of (j := 1) rfl rfl, rfl, _, rfl, ?_⟩
              have r1 : (ren a b (Pn, z, Qn)).1 = if Pn = b then a else Pn := rfl
              have r2 : (ren a b (Pn, z, Qn)).2.2 = if Qn = b then a else Qn := rfl
              refine ite2 (fun c1 => ?_) (fun c1 => ?_)
              · have e1 : Pn = b := vnat.mp (of_decide_eq_true c1)
                refine ⟨_, rfl, t, _, _, _, rfl, rfl, hg3, at_of (j := 0) rfl rfl, _, rfl, _, rfl, _, rfl, t, _, _, _, rfl, rfl, hg3, at_of (j := 1) rfl rfl, rfl, _, rfl, ?_⟩
                refine ite2 (fun c2 => ?_) (fun c2 => ?_)
                · have e2 : Qn = b := vnat.mp (of_decide_eq_true c2)
                  refine ⟨_, rfl, t, _, _, _, rfl, rfl, hg3, at_of (j := 0) rfl rfl, ?_⟩
                  exact fin _ _ (by rw [r1, if_pos e1]) (by rw [r2, if_pos e2])
                · have e2 : ¬ Qn = b := fun y => c2 (decide_eq_true (vnat.mpr y))
                  refine ⟨_, rfl, ?_⟩
                  exact fin _ _ (by rw [r1, if_pos e1]) (by rw [r2, if_neg e2])
              · have e1 : ¬ Pn = b := fun y => c1 (decide_eq_true (vnat.mpr y))
                refine ⟨_, rfl, _, rfl, _, rfl, _, rfl, t, _, _, _, rfl, rfl, hg3, at_of (j := 1) rfl rfl, rfl, _, rfl, ?_⟩
                refine ite2 (fun c2 => ?_) (fun c2 => ?_)
                · have e2 : Qn = b := vnat.mp (of_decide_eq_true c2)
                  refine ⟨_, rfl, t, _, _, _, rfl, rfl, hg3, at_of (j := 0) rfl rfl, ?_⟩
                  exact fin _ _ (by rw [r1, if_neg e1]) (by rw [r2, if_pos e2])
                · have e2 : ¬ Qn = b := fun y => c2 (decide_eq_true (vnat.mpr y))
                  refine ⟨_, rfl, ?_⟩
                  exact fin _ _ (by rw [r1, if_neg e1]) (by rw [r2, if_neg e2])
            · rintro σ H3 ⟨us, v5, v7, v8, rfl, w2, w3, w4⟩
              rw [rv_len, tl, List.take_length] at w4
              refine ⟨_, rfl, so, rfl, ⟨_, SqL.of w3⟩, fun Dn hDn => ?_⟩
              have x1 : Same H3 (L2.upd H3 Dn (.lst [])) := Same.new hDn
              have ul := w4.len
              rw [List.length_map] at ul
              refine lc_list (K := K) (a := so) (xs := rv us) (fun j H4 => ∃ ps : List Addr, H4 Dn = some (.lst (rv ps)) ∧ PairsT K H4 ps (((E.map (ren a b)).take j).map fun e => (keyOf e, V.int 0)) ∧ Same H3 H4) ⟨[], upd_same, .nil, x1⟩ (fun j H4 _ ⟨_, _, _, x⟩ => SqL.of (x _ _ w3)) ?_ ?_
              · rintro j x H4 hx ⟨ps, x2, x3, x4⟩
                obtain ⟨te, Pn, z, Qn, hte, rfl, hE, hT⟩ := (w4.go x4).get hx
                have jl := (List.getElem?_eq_some_iff.mp hte).1
                have pl := Paired.length x3
                rw [List.length_map, List.length_take, List.length_map] at pl
                refine ⟨rfl, ?_⟩
                refine ⟨_, rfl, by show 2 ≤ sizeLine; decide, fun p hp => ?_⟩
                have x5 := Same.new (o := .tup [.ref te, .int 0]) hp
                refine ⟨_, x5 _ _ x2, by rw [rv_len]; omega, ps ++ [p], by rw [upd_same]; simp [rv], ?_, same_upd (x4.trans x5) hDn⟩
                rw [List.take_add_one, hE]
                simp only [Option.toList, List.map_append, List.map_cons, List.map_nil]
                exact PairsT.upd (Paired.snoc (PairsT.go x3 x5) ⟨te, SqT.of upd_same, x5 _ _ hT⟩) (x5 _ _ x2) (fun _ z => by cases z) (fun _ _ z => by cases z)
              · rintro H4 ⟨ps, x2, x3, x4⟩
                rw [rv_len, ul, ← List.length_map (ren a b), List.take_length] at x3
                refine ⟨Dn, ps, _, rfl, x2, x3, fun dd hdd => ?_⟩
                have x5 := Same.new (o := .dT (mergeT [] ((E.map (ren a b)).map fun e => (keyOf e, V.int 0)))) hdd
                refine ⟨dd, _, rfl, .inl upd_same, fun ed2 bs hed2 keys => ?_⟩
                obtain ⟨E2, y1, y2, y3⟩ := merge_edges keys
                rw [List.length_map] at y3
                have x6 := Same.new (o := .lst (bs.map V.ref)) hed2
                have st := q3.step u5 (E2 := E2) fun e => by
                  rw [y2 e, List.mem_map]
                  exact ⟨fun ⟨e0, h1, h2⟩ => ⟨e0, h1, h2.symm⟩, fun ⟨e0, h1, h2⟩ => ⟨e0, h1, h2.symm⟩⟩
                exact ⟨(L.erase b).length + 1, by have := st.2; omega, ed2, bs, E2, _, L.erase b, .ref t, _, _, _, _, _, _, _, _, rfl, ((((u0.trans w2).trans x4).trans x5).trans x6), upd_same, y1.go x6, st.1, by omega, by have := st.2; omega, .inl ⟨(fun z => by cases z), rfl⟩⟩
      · have ge : gv = .non := ne_no c1
        subst ge
        have fE : Func E := by
          rcases q6 with ⟨z, _⟩ | ⟨_, z, _⟩
          · exact absurd rfl z
          · exact z
        clear q6
        refine ⟨_, rfl, ed, rfl, ⟨_, SqL.of q1⟩, fun Dn hDn => ?_⟩
        have x1 : Same H' (L2.upd H' Dn (.lst [])) := Same.new hDn
        refine lc_list (K := K) (a := ed) (xs := rv ts) (fun j H4 => ∃ ps : List Addr, H4 Dn = some (.lst (rv ps)) ∧ PairsT K H4 ps ((E.take j).map fun e => (kq e.1 e.2.1, V.int (e.2.2 : Nat))) ∧ Same H' H4) ⟨[], upd_same, .nil, x1⟩ (fun j H4 _ ⟨_, _, _, x⟩ => SqL.of (x _ _ q1)) ?_ ?_
        · rintro j x H4 hx ⟨ps, x2, x3, x4⟩
          obtain ⟨te, Pn, z, Qn, hte, rfl, hE, hT⟩ := (q2.go x4).get hx
          have jl := (List.getElem?_eq_some_iff.mp hte).1
          have pl := Paired.length x3
          rw [List.length_map, List.length_take] at pl
          refine ⟨te, _, rfl, SqT.of hT, rfl, _, _, rfl, _, _, rfl, _, _, rfl, rfl, rfl, ?_⟩
          refine ⟨_, rfl, _, rfl, by show 2 ≤ sizeLine; decide, fun kt hkt => ?_⟩
          have x5 : Same H4 (L2.upd H4 kt (.tup [.int (Pn : Nat), .int z])) := Same.new hkt
          have x6 : (L2.upd H4 kt (.tup [.int (Pn : Nat), .int z])) kt = some (.tup ((kq Pn z).map kV)) := upd_same
          generalize L2.upd H4 kt (.tup [.int (Pn : Nat), .int z]) = H5 at *
          refine ⟨_, rfl, by show 2 ≤ sizeLine; decide, fun p hp => ?_⟩
          have x7 := Same.new (o := .tup [.ref kt, .int (Qn : Nat)]) hp
          have x8 := x7 _ _ (x5 _ _ x2)
          refine ⟨_, x8, by rw [rv_len]; omega, ps ++ [p], by rw [upd_same]; simp [rv], ?_, same_upd ((x4.trans x5).trans x7) hDn⟩
          rw [List.take_add_one, hE]
          simp only [Option.toList, List.map_append, List.map_cons, List.map_nil]
          exact PairsT.upd (Paired.snoc (PairsT.go x3 (x5.trans x7)) ⟨kt, SqT.of upd_same, x7 _ _ x6⟩) x8 (fun _ z => by cases z) (fun _ _ z => by cases z)
        · rintro H4 ⟨ps, x2, x3, x4⟩
          rw [rv_len, tl, List.take_length] at x3
          refine ⟨Dn, ps, _, rfl, x2, x3, fun ld hld => ?_⟩
          have LD := Leads.merge E
          generalize mergeT [] (E.map fun e => (kq e.1 e.2.1, V.int (e.2.2 : Nat))) = kvs at *
          have x5 : Same H4 (L2.upd H4 ld (.dT kvs)) := Same.new hld
          have x6 : (L2.upd H4 ld (.dT kvs)) ld = some (.dT kvs) := upd_same
          have sb := (s1.trans x4).trans x5
          generalize L2.upd H4 ld (.dT kvs) = H5 at *
          refine ⟨by show 1 ≤ sizeLine; decide, fun li hli => ?_⟩
          have x7 : Same H5 (L2.upd H5 li (.lst [.int 0])) := Same.new hli
          have x8 : (L2.upd H5 li (.lst [.int 0])) li = some (.lst (nv [0])) := upd_same
          have x9 := x7 _ _ x6
          have sb := sb.trans x7
          generalize L2.upd H5 li (.lst [.int 0]) = Hb at *
          refine ⟨Nat.zero_le _, fun fo hfo => ?_⟩
          have z1 : Same Hb (L2.upd Hb fo (.lst [])) := Same.new hfo
          refine ⟨by show 3 ≤ sizeLine; decide, fun tt htt => ?_⟩
          have z2 : Same (L2.upd Hb fo (.lst [])) (L2.upd (L2.upd Hb fo (.lst [])) tt (.tup [.ref ld, .ref li, .ref fo])) := Same.new htt
          refine ⟨tt, _, rfl, SqT.of upd_same, rfl, _, _, rfl, _, _, rfl, _, _, rfl, rfl, ?_⟩
          have z3 := z2 _ _ (upd_same (H := Hb) (a := fo) (o := .lst []))
          have z4 := z1.trans z2
          generalize L2.upd (L2.upd Hb fo (.lst [])) tt (.tup [.ref ld, .ref li, .ref fo]) = H6 at *
          have dlf : li ≠ fo := ne_of_none x8 hfo
          have quo := q3.quot fE
          have live : ∀ P s Q, lastOf E P s = some Q → Q ∈ L := fun P s Q h => (q3.live (FG.lastOf_mem h)).2
          have LDv := LD.1
          clear LD
          generalize lastOf E = δ at *
          refine ⟨fun m σ H7 => ∃ (line : List Nat) (li : Addr) (rows : List Addr) (v5 v7 v8 v15 : Option V), σ = [some (.int (acts : Nat)), some (.ref l), some (.ref ed), v3, v4, v5, v6, v7, v8, some .non, v10, v11, some (.ref ld), some (.ref li), some (.ref fo), v15, none, none, none] ∧ Same Hb H7 ∧ H7 li = some (.lst (nv line)) ∧ li ≠ fo ∧ H7 fo = some (.lst (rv rows)) ∧
            (∀ (k : Nat) (r : Addr), rows[k]? = some r → r ≠ fo ∧ ∃ P, line[k]? = some P ∧ H7 r = some (.lst ((FG.signs acts).map fun s => ov (δ P s)))) ∧ Bfs δ (FG.signs acts) rows.length line ∧ m + rows.length = L.length + 1,
            ⟨L.length + 1, [0], li, [], _, _, _, _, rfl, z4, z4 _ _ x8, dlf, z3, fun k r e => by simp at e, .start, rfl⟩, ?_⟩
          rintro m σ H7 ⟨line, li, rows, v5, v7, v8, v15, rfl, b1, b2, b3, b4, b5, b6, b7⟩
          have lle : line.length ≤ L.length + 1 := by
            have : line.length ≤ (0 :: L).length := nodup_sub b6.nodup fun p hp => by
              rcases b6.come p hp with z | ⟨P', _, s', _, e'⟩
              · rw [z]; simp
              · simp [live _ _ _ e']
            simpa using this
          have Ll : L.length ≤ 200001 := by omega
          have b8 := b1 _ _ x9
          refine ⟨_, rfl, fo, _, rfl, .inl (SqL.of b4), _, rfl, li, _, rfl, .inl (SqL.of b2), _, _, rfl, rfl, _, rfl, ?_⟩
          refine ite2 (fun hlt => ?_) (fun hge => ?_)
          · have lt : rows.length < line.length := by have := of_decide_eq_true hlt; rw [rv_len, nv_len] at this; omega
            obtain ⟨Pl, hP⟩ : ∃ Pl, line[rows.length]? = some Pl := ⟨_, List.getElem?_eq_getElem lt⟩
            refine ⟨_, fun _ _ z => z, ?_⟩
            refine ⟨Nat.zero_le _, fun ro hro => ?_⟩
            have c0 : Same H7 (L2.upd H7 ro (.lst [])) := Same.new hro
            refine ⟨_, rfl, acts, rfl, ha, fun sl H8 c1 nsl hsl => ?_⟩
            have c2 : H8 ro = some (.lst []) := c1 _ _ upd_same
            have dsl : sl ≠ ro := fun z => by rw [z, upd_same] at nsl; cases nsl
            refine ⟨sl, rfl, ⟨_, SqL.of hsl⟩, ?_⟩
            have dfr : fo ≠ ro := ne_of_none b4 hro
            have dlr : li ≠ ro := ne_of_none b2 hro
            refine for_list (K := K) (a := sl) (xs := iv (FG.signs acts)) (fun j σ H9 => ∃ (line' : List Nat) (li' : Addr) (v7 v8 : Option V), σ = [some (.int (acts : Nat)), some (.ref l), some (.ref ed), v3, v4, v5, v6, v7, v8, some .non, v10, v11, some (.ref ld), some (.ref li'), some (.ref fo), some (.ref ro), none, none, none] ∧ Same H7 H9 ∧ H9 sl = some (.lst (iv (FG.signs acts))) ∧
              H9 ro = some (.lst (((FG.signs acts).take j).map fun s => ov (δ Pl s))) ∧ H9 li' = some (.lst (nv line')) ∧ li' ≠ ro ∧ li' ≠ fo ∧ line' = extRow δ Pl ((FG.signs acts).take j) line)
              ⟨line, li, _, _, rfl, c0.trans c1, hsl, c2, c1 _ _ (c0 _ _ b2), dlr, b3, rfl⟩ (fun j σ H9 _ ⟨_, _, _, _, _, _, c, _⟩ => SqL.of c) ?_ ?_
            · rintro j x σ H9 hx ⟨line', li', v7, v8, rfl, e1, e2, e3, e4, e5, e6, e7⟩
              obtain ⟨z, hz, rfl⟩ := iv_at hx
              have jl := (List.getElem?_eq_some_iff.mp hz).1
              rw [signs_len] at jl
              obtain ⟨more, em⟩ := FG.extRow_app δ Pl ((FG.signs acts).take j) line
              have hPl' : line'[rows.length]? = some Pl := by
                rw [e7, em, List.getElem?_append, if_pos lt]; exact hP
              have et : (FG.signs acts).take (j + 1) = (FG.signs acts).take j ++ [z] := by rw [List.take_add_one, hz]; rfl
              have ext : extRow δ Pl ((FG.signs acts).take (j + 1)) line = extRow δ Pl [z] line' := by rw [et, extRow_append, ← e7]
              have ll : line'.length ≤ 200003 := by
                have bn : line'.Nodup := by rw [e7]; exact FG.extRow_nodup _ _ _ _ b6.nodup
                have : line'.length ≤ (0 :: L).length := nodup_sub bn fun p hp => by
                  rw [e7] at hp
                  rcases FG.extRow_from _ _ _ _ _ hp with y | ⟨s', _, e'⟩
                  · rcases b6.come p y with z | ⟨P', _, s', _, e'⟩
                    · rw [z]; simp
                    · simp [live _ _ _ e']
                  · simp [live _ _ _ e']
                simp at this; omega
              refine ⟨_, rfl, ld, rfl, .inr ⟨_, .inl (e1 _ _ b8)⟩, _, rfl, _, rfl, fo, _, rfl, .inl (SqL.of (e1 _ _ b4)), li', _, _, _, rfl, rfl, SqL.of e4, at_of (j := rows.length) (by rw [rv_len]) (nv_at hPl'), _, rfl, by show 2 ≤ sizeLine; decide, fun q hq => ?_⟩
              have f1 : Same H9 (L2.upd H9 q (.tup [.int (Pl : Nat), .int z])) := Same.new hq
              refine ⟨_, DGet.t (k := kq Pl z) (f1 _ _ (e1 _ _ b8)) upd_same, ?_⟩
              rw [LDv]
              generalize L2.upd H9 q (.tup [.int (Pl : Nat), .int z]) = H10 at *
              have ev : ((δ Pl z).map fun q => V.int (q : Nat)).getD V.non = ov (δ Pl z) := by cases δ Pl z <;> rfl
              rw [ev]
              refine ⟨_, rfl, _, rfl, by show 1 ≤ sizeLine; decide, fun l1 hl1 => ?_⟩
              have f2 : Same H10 (L2.upd H10 l1 (.lst [ov (δ Pl z)])) := Same.new hl1
              have f3 : (L2.upd H10 l1 (.lst [ov (δ Pl z)])) l1 = some (.lst [ov (δ Pl z)]) := upd_same
              have f4 := f1.trans f2
              generalize L2.upd H10 l1 (.lst [ov (δ Pl z)]) = H11 at *
              have g4 := f4 _ _ e4
              refine ⟨_, rfl, rfl, _, rfl, ?_⟩
              cases e : δ Pl z with
              | none =>
                rw [e] at f3
                refine iteF ?_
                refine .inr ⟨_, rfl, l1, 0, _, rfl, rfl, f3, by decide, by decide, by show 1 * 0 ≤ sizeLine; decide, fun p1 hp1 => ?_⟩
                have f5 : Same H11 (L2.upd H11 p1 (.lst ([] : List V))) := Same.new hp1
                have f6 : (L2.upd H11 p1 (.lst ([] : List V))) p1 = some (.lst (nv [])) := upd_same
                have el : nv line' ++ nv [] = nv (extRow δ Pl [z] line') := by simp [extRow, e, nv]
                have g5 := f5 _ _ g4
                refine ⟨li', p1, _, _, rfl, rfl, g5, f6, ?_, fun li2 hli2 => ?_⟩
                · show (nv line').length + _ ≤ sizeLine
                  rw [nv_len, nv_len]; simp; omega
                rw [el]
                have f7 := Same.new (o := .lst (nv (extRow δ Pl [z] line'))) hli2
                have f8 := (f4.trans f5).trans f7
                have k3 := f8 _ _ e3
                have nr : li2 ≠ ro := (ne_of_none (f5 _ _ (f4 _ _ e3)) hli2).symm
                have nf : li2 ≠ fo := (ne_of_none (f5 _ _ (f4 _ _ (e1 _ _ b4))) hli2).symm
                refine ⟨_, rfl, .inl ⟨rfl, _, SqL.of k3⟩, _, rfl, ro, _, _, rfl, rfl, k3, by rw [List.length_map, List.length_take]; omega, ?_⟩
                refine ⟨extRow δ Pl [z] line', li2, _, _, rfl, same_upd (e1.trans f8) hro, by rw [upd_ne dsl]; exact f8 _ _ e2, ?_, by rw [upd_ne nr, upd_same], nr, nf, ext.symm⟩
                rw [upd_same, et, List.map_append, ← e]; rfl
              | some Qn =>
                rw [e] at f3
                refine iteT ?_
                refine ⟨_, rfl, _, rfl, li', _, rfl, .inl (SqL.of g4), rfl, flat_nv _, ?_⟩
                have hk : (if true = true then !inV (ov (some Qn)) (nv line') else inV (ov (some Qn)) (nv line')) = !decide (Qn ∈ line') := by
                  rw [if_pos rfl]; exact congrArg (!·) (inV_nv Qn line')
                by_cases c : Qn ∈ line'
                · refine .inr ⟨_, rfl, l1, _, _, rfl, rfl, f3, ?_⟩
                  rw [hk, if_neg (by simp [c])]
                  refine ⟨by decide, by decide, by show 1 * 0 ≤ sizeLine; decide, fun p1 hp1 => ?_⟩
                  have f5 : Same H11 (L2.upd H11 p1 (.lst ([] : List V))) := Same.new hp1
                  have f6 : (L2.upd H11 p1 (.lst ([] : List V))) p1 = some (.lst (nv [])) := upd_same
                  have el : nv line' ++ nv [] = nv (extRow δ Pl [z] line') := by simp [extRow, e, nv, c]
                  have g5 := f5 _ _ g4
                  refine ⟨li', p1, _, _, rfl, rfl, g5, f6, ?_, fun li2 hli2 => ?_⟩
                  · show (nv line').length + _ ≤ sizeLine
                    rw [nv_len, nv_len]; simp; omega
                  rw [el]
                  have f7 := Same.new (o := .lst (nv (extRow δ Pl [z] line'))) hli2
                  have f8 := (f4.trans f5).trans f7
                  have k3 := f8 _ _ e3
                  have nr : li2 ≠ ro := (ne_of_none (f5 _ _ (f4 _ _ e3)) hli2).symm
                  have nf : li2 ≠ fo := (ne_of_none (f5 _ _ (f4 _ _ (e1 _ _ b4))) hli2).symm
                  refine ⟨_, rfl, .inl ⟨rfl, _, SqL.of k3⟩, _, rfl, ro, _, _, rfl, rfl, k3, by rw [List.length_map, List.length_take]; omega, ?_⟩
                  refine ⟨extRow δ Pl [z] line', li2, _, _, rfl, same_upd (e1.trans f8) hro, by rw [upd_ne dsl]; exact f8 _ _ e2, ?_, by rw [upd_ne nr, upd_same], nr, nf, ext.symm⟩
                  rw [upd_same, et, List.map_append, ← e]; rfl
                · refine .inr ⟨_, rfl, l1, _, _, rfl, rfl, f3, ?_⟩
                  rw [hk, if_pos (by simp [c])]
                  refine ⟨by decide, by decide, by show 1 * 1 ≤ sizeLine; decide, fun p1 hp1 => ?_⟩
                  have f5 : Same H11 (L2.upd H11 p1 (.lst ([.int (Qn : Nat)] : List V))) := Same.new hp1
                  have f6 : (L2.upd H11 p1 (.lst ([.int (Qn : Nat)] : List V))) p1 = some (.lst (nv [Qn])) := upd_same
                  have el : nv line' ++ nv [Qn] = nv (extRow δ Pl [z] line') := by simp [extRow, e, nv, c]
                  have g5 := f5 _ _ g4
                  refine ⟨li', p1, _, _, rfl, rfl, g5, f6, ?_, fun li2 hli2 => ?_⟩
                  · show (nv line').length + _ ≤ sizeLine
                    rw [nv_len, nv_len]; simp; omega
                  rw [el]
                  have f7 := Same.new (o := .lst (nv (extRow δ Pl [z] line'))) hli2
                  have f8 := (f4.trans f5).trans f7
                  have k3 := f8 _ _ e3
                  have nr : li2 ≠ ro := (ne_of_none (f5 _ _ (f4 _ _ e3)) hli2).symm
                  have nf : li2 ≠ fo := (ne_of_none (f5 _ _ (f4 _ _ (e1 _ _ b4))) hli2).symm
                  refine ⟨_, rfl, .inl ⟨rfl, _, SqL.of k3⟩, _, rfl, ro, _, _, rfl, rfl, k3, by rw [List.length_map, List.length_take]; omega, ?_⟩
                  refine ⟨extRow δ Pl [z] line', li2, _, _, rfl, same_upd (e1.trans f8) hro, by rw [upd_ne dsl]; exact f8 _ _ e2, ?_, by rw [upd_ne nr, upd_same], nr, nf, ext.symm⟩
                  rw [upd_same, et, List.map_append, ← e]; rfl
            · rintro σ H9 ⟨line', li', v7, v8, rfl, e1, e2, e3, e4, e5, e6, e7⟩
              rw [iv_len, List.take_length] at e3 e7
              have B2 : Bfs δ (FG.signs acts) (rows.length + 1) line' := by rw [e7]; exact .row b6 hP
              obtain ⟨more, em⟩ := FG.extRow_app δ Pl (FG.signs acts) line
              have k4 := e1 _ _ b4
              refine ⟨_, rfl, .inl ⟨rfl, _, SqL.of k4⟩, _, rfl, fo, _, _, rfl, rfl, k4, by rw [rv_len]; omega, ?_⟩
              have e9 : rv rows ++ [V.ref ro] = rv (rows ++ [ro]) := by simp [rv]
              rw [e9]
              refine ⟨m - 1, by omega, line', li', rows ++ [ro], _, _, _, _, rfl, same_upd (b1.trans e1) hfo, by rw [upd_ne e6]; exact e4, e6, upd_same, fun k r er => ?_, by simpa using B2, by rw [List.length_append]; simp; omega⟩
              rw [List.getElem?_append] at er
              by_cases c : k < rows.length
              · rw [if_pos c] at er
                obtain ⟨h1, P', h2, h3⟩ := b5 k r er
                refine ⟨h1, P', ?_, by rw [upd_ne h1]; exact e1 _ _ h3⟩
                rw [e7, em, List.getElem?_append, if_pos (by omega)]; exact h2
              · rw [if_neg c] at er
                have ek : k - rows.length = 0 := by
                  obtain ⟨h1, _⟩ := List.getElem?_eq_some_iff.mp er
                  simp at h1; omega
                rw [ek] at er
                simp at er
                subst er
                have : k = rows.length := by omega
                subst this
                refine ⟨dfr.symm, Pl, ?_, by rw [upd_ne dfr.symm]; exact e3⟩
                rw [e7, em, List.getElem?_append, if_pos lt]; exact hP
          · have eq : rows.length = line.length := by
              have h1 := b6.le
              have h2 : ¬ (((rv rows).length : Nat) : Int) < ((nv line).length : Nat) := fun z => hge (decide_eq_true z)
              rw [rv_len, nv_len] at h2
              omega
            rw [eq] at b6
            obtain ⟨g1, g2, g3⟩ := FG.graph_of hs quo b6
            have sl2 : (FG.signs acts).length ≤ 2000 := by rw [signs_len]; omega
            refine ⟨_, rfl, fo, rfl, ⟨_, SqL.of b4⟩, fun pl hpl => ?_⟩
            have h1 : Same H7 (L2.upd H7 pl (.lst [])) := Same.new hpl
            refine lc_list (K := K) (a := fo) (xs := rv rows) (fun i H9 => ∃ qs : List Addr, H9 pl = some (.lst (rv qs)) ∧ qs.length = i ∧ Same H7 H9 ∧ ∀ (k : Nat) (q : Addr), qs[k]? = some q → q ≠ pl ∧ H9 q = some (.lst ((FG.signs acts).map fun s => ov (numD δ (FG.signs acts) line k s)))) ⟨[], upd_same, rfl, h1, fun k q e => by simp at e⟩ (fun i H9 _ ⟨_, _, _, c, _⟩ => SqL.of (c _ _ b4)) ?_ ?_
            · rintro i x H9 hx ⟨qs, c1, c2, c3, c4⟩
              obtain ⟨r, hr', rfl⟩ := rv_get hx
              obtain ⟨_, P', d2, d3⟩ := b5 i r hr'
              have il := (List.getElem?_eq_some_iff.mp hr').1
              refine ⟨rfl, ?_⟩
              refine ⟨_, rfl, r, rfl, ⟨_, SqL.of (c3 _ _ d3)⟩, fun D2 hD2 => ?_⟩
              have n1 : pl ≠ D2 := ne_of_none c1 hD2
              have val : ∀ s ∈ FG.signs acts, numD δ (FG.signs acts) line i s = (δ P' s).map (line.idxOf ·) := fun s hs => by
                unfold FG.numD
                rw [if_pos hs, d2]
              refine lc_list (K := K) (a := r) (xs := (FG.signs acts).map fun s => ov (δ P' s)) (fun j H10 => H10 = L2.upd H9 D2 (.lst (((FG.signs acts).take j).map fun s => ov (numD δ (FG.signs acts) line i s)))) rfl (fun j H10 _ e => by rw [e]; exact SqL.of ((Same.new hD2) _ _ (c3 _ _ d3))) ?_ ?_
              · rintro j x H10 hx e
                subst e
                rw [List.getElem?_map] at hx
                cases ez : (FG.signs acts)[j]? with
                | none => rw [ez] at hx; cases hx
                | some z =>
                  rw [ez] at hx
                  have hx := Option.some.inj hx
                  subst hx
                  have zs := List.mem_of_getElem? ez
                  have et : ((FG.signs acts).take (j + 1)).map (fun s => ov (numD δ (FG.signs acts) line i s)) = ((FG.signs acts).take j).map (fun s => ov (numD δ (FG.signs acts) line i s)) ++ [ov (numD δ (FG.signs acts) line i z)] := by rw [List.take_add_one, ez]; simp
                  refine ⟨rfl, ?_⟩
                  refine ⟨_, rfl, rfl, _, rfl, ?_⟩
                  have lb : (((FG.signs acts).take j).map fun s => ov (numD δ (FG.signs acts) line i s)).length < sizeLine := by rw [List.length_map, List.length_take]; omega
                  have vz := val z zs
                  refine ite2 (fun cc => ?_) (fun cc => ?_)
                  rotate_left
                  · have he : ov (δ P' z) = V.non := ne_no cc
                    have e : δ P' z = none := by
                      cases e : δ P' z with
                      | none => rfl
                      | some Qn => rw [e] at he; cases he
                    refine ⟨_, upd_same, lb, ?_⟩
                    rw [upd_twice, et, vz, e]; rfl
                  · have hne : ov (δ P' z) ≠ V.non := ne_yes cc
                    obtain ⟨Qn, e⟩ : ∃ Qn, δ P' z = some Qn := by
                      cases e : δ P' z with
                      | none => rw [e] at hne; exact absurd rfl hne
                      | some Qn => exact ⟨Qn, rfl⟩
                    have Qm : Qn ∈ line := b6.closed i P' z Qn (by rw [← eq]; exact il) d2 zs e
                    have lQ := List.idxOf_lt_length_of_mem Qm
                    have li2 : (L2.upd H9 D2 (.lst (((FG.signs acts).take j).map fun s => ov (numD δ (FG.signs acts) line i s)))) li = some (.lst (nv line)) := (Same.new hD2) _ _ (c3 _ _ b2)
                    refine ⟨_, rfl, .inl ⟨rfl, _, SqL.of li2⟩, _, rfl, li, nv line, _, line.idxOf Qn, .int (Qn : Nat), rfl, rfl, SqL.of li2, (by show flatV (ov (δ P' z)) = true; rw [e]; rfl), flat_nv _, nv_at (by rw [List.getElem?_eq_getElem lQ, List.getElem_idxOf lQ]), (by show eqV (V.int (Qn : Nat)) (ov (δ P' z)) = true; rw [e]; show ((Qn : Int) == (Qn : Int)) = true; simp), fun mm z' hm hz' => ?_, ?_⟩
                    · rw [List.getElem?_map] at hz'
                      cases em : line[mm]? with
                      | none => rw [em] at hz'; cases hz'
                      | some y =>
                        rw [em] at hz'
                        have hz' := Option.some.inj hz'
                        subst hz'
                        show eqV (V.int (y : Nat)) (ov (δ P' z)) = false
                        rw [e]
                        show ((y : Int) == (Qn : Int)) = false
                        have : y ≠ Qn := fun yy => by
                          subst yy
                          obtain ⟨h5, h6⟩ := List.getElem?_eq_some_iff.mp em
                          have := b6.nodup.idxOf_getElem mm h5
                          rw [h6] at this
                          omega
                        simp; omega
                    · refine ⟨_, upd_same, lb, ?_⟩
                      rw [upd_twice, et, vz, e]; rfl
              · rintro H10 e
                subst e
                rw [List.length_map, List.take_length]
                have c5 : (L2.upd H9 D2 (.lst ((FG.signs acts).map fun s => ov (numD δ (FG.signs acts) line i s)))) pl = some (.lst (rv qs)) := by rw [upd_ne n1]; exact c1
                refine ⟨_, c5, by rw [rv_len]; omega, qs ++ [D2], by rw [upd_same]; simp [rv], by simp [c2], same_upd (c3.trans (Same.new hD2)) hpl, fun k q ek => ?_⟩
                rw [List.getElem?_append] at ek
                by_cases ck : k < qs.length
                · rw [if_pos ck] at ek
                  obtain ⟨h5, h6⟩ := c4 k q ek
                  exact ⟨h5, by rw [upd_ne h5]; exact (Same.new hD2) _ _ h6⟩
                · rw [if_neg ck] at ek
                  have ek2 : k - qs.length = 0 := by
                    obtain ⟨h1, _⟩ := List.getElem?_eq_some_iff.mp ek
                    simp at h1; omega
                  rw [ek2] at ek
                  simp at ek
                  subst ek
                  have : k = i := by omega
                  subst this
                  exact ⟨n1.symm, by rw [upd_ne n1.symm, upd_same]⟩
            · rintro H9 ⟨qs, c1, c2, c3, c4⟩
              rw [rv_len, eq] at c2
              refine ⟨_, rfl, pl, rfl, ⟨_, SqL.of c1⟩, fun D3 hD3 => ?_⟩
              have w1 : Same H9 (L2.upd H9 D3 (.lst [])) := Same.new hD3
              refine lc_list (K := K) (a := pl) (xs := rv qs) (fun i Ha => ∃ rs : List Addr, Ha D3 = some (.lst (rv rs)) ∧ rs.length = i ∧ Same H9 Ha ∧ ∀ (k : Nat) (r : Addr), rs[k]? = some r → RoAt K Ha acts r (numD δ (FG.signs acts) line k)) ⟨[], upd_same, rfl, w1, fun k q e => by simp at e⟩ (fun i Ha _ ⟨_, _, _, c, _⟩ => SqL.of (c _ _ c1)) ?_ ?_
              · rintro i x Ha hx ⟨rs, d1, d2, d3, d4⟩
                obtain ⟨q, hq, rfl⟩ := rv_get hx
                have il := (List.getElem?_eq_some_iff.mp hq).1
                obtain ⟨_, hq2⟩ := c4 i q hq
                refine ⟨rfl, ?_⟩
                refine ⟨_, rfl, (acts : Int), rfl, by omega, by omega, fun D4 hD4 => ?_⟩
                have n2 : D3 ≠ D4 := ne_of_none d1 hD4
                have en : ((acts : Int)).toNat = acts := by omega
                refine lc_range (lo := 0) (n := ((acts : Int)).toNat) (fun j Hc => ∃ prs : List Addr, Hc D4 = some (.lst (rv prs)) ∧ prs.length = j ∧ Same Ha Hc ∧ ∀ (x : Nat) (p : Addr), prs[x]? = some p → Hc p = some (.tup [ov (numD δ (FG.signs acts) line i ((x : Int) + 1)), ov (numD δ (FG.signs acts) line i (-((x : Int) + 1)))])) ⟨[], upd_same, rfl, Same.new hD4, fun x p e => by simp at e⟩ ?_ ?_
                · rintro j Hc hj ⟨prs, p1, p2, p3, p4⟩
                  rw [en] at hj
                  have hq3 := p3 _ _ (d3 _ _ hq2)
                  obtain ⟨y1, y2⟩ := signs_get hj
                  have i1 : (2 : Int) * (0 + (j : Nat)) = ((2 * j : Nat) : Int) := by omega
                  have i2 : (2 : Int) * (0 + (j : Nat)) + 1 = ((2 * j + 1 : Nat) : Int) := by omega
                  refine ⟨rfl, ?_⟩
                  refine ⟨_, rfl, _, rfl, _, _, rfl, rfl, .inl ⟨by decide, by decide⟩, q, _, _, _, rfl, rfl, SqL.of hq3, at_of (j := 2 * j) i1 (by rw [List.getElem?_map, y1]; rfl), _, rfl, _, rfl, _, _, rfl, rfl, .inl ⟨by decide, by decide⟩, _, _, rfl, rfl, q, _, _, _, rfl, rfl, SqL.of hq3, at_of (j := 2 * j + 1) i2 (by rw [List.getElem?_map, y2]; rfl), by show 2 ≤ sizeLine; decide, fun t ht => ?_⟩
                  have nt : D4 ≠ t := ne_of_none p1 ht
                  refine ⟨_, by rw [upd_ne nt]; exact p1, by rw [rv_len]; omega, prs ++ [t], by rw [upd_same]; simp [rv], by simp [p2], same_upd (p3.trans (Same.new ht)) hD4, fun x p e => ?_⟩
                  have key : (L2.upd Hc t (.tup [ov (numD δ (FG.signs acts) line i ((j : Int) + 1)), ov (numD δ (FG.signs acts) line i (-((j : Int) + 1)))])) p = some (.tup [ov (numD δ (FG.signs acts) line i ((x : Int) + 1)), ov (numD δ (FG.signs acts) line i (-((x : Int) + 1)))]) := by
                    rw [List.getElem?_append] at e
                    by_cases c : x < prs.length
                    · rw [if_pos c] at e
                      have := p4 x p e
                      rw [upd_ne (ne_of_none this ht)]; exact this
                    · rw [if_neg c] at e
                      have ek : x - prs.length = 0 := by
                        obtain ⟨h1, _⟩ := List.getElem?_eq_some_iff.mp e
                        simp at h1; omega
                      rw [ek] at e
                      simp at e
                      subst e
                      have : x = j := by omega
                      subst this
                      rw [upd_same]
                  rw [upd_ne (ne_of key (by rw [upd_ne nt]; exact p1) (fun z => by cases z))]
                  exact key
                · rintro Hc ⟨prs, p1, p2, p3, p4⟩
                  rw [en] at p2
                  refine ⟨D4, _, rfl, .inl (SqL.of p1), fun r Hd s6 hr6 => ?_⟩
                  have z1 := s6 _ _ (p3 _ _ d1)
                  refine ⟨_, z1, by rw [rv_len]; omega, rs ++ [r], by rw [upd_same]; simp [rv], by simp [d2], same_upd ((d3.trans p3).trans s6) hD3, fun k x ek => ?_⟩
                  refine RoAt.upd ?_ z1 (fun _ z => by cases z) (fun _ _ z => by cases z)
                  rw [List.getElem?_append] at ek
                  by_cases ck : k < rs.length
                  · rw [if_pos ck] at ek
                    exact (d4 k x ek).go (p3.trans s6)
                  · rw [if_neg ck] at ek
                    have ek2 : k - rs.length = 0 := by
                      obtain ⟨h1, _⟩ := List.getElem?_eq_some_iff.mp ek
                      simp at h1; omega
                    rw [ek2] at ek
                    simp at ek
                    subst ek
                    have : k = i := by omega
                    subst this
                    exact ⟨prs, hr6, p2, fun j p hp => SqT.of (s6 _ _ (p4 j p hp))⟩
              · rintro Ha ⟨rs, d1, d2, d3, d4⟩
                rw [rv_len, c2] at d2
                refine ⟨D3, _, rfl, .inl (SqL.of d1), fun a He s7 ha7 => ?_⟩
                exact k a He _ _ _ ((((sb.trans b1).trans c3).trans d3).trans s7) ⟨rs, ha7, d2, fun k r e => (d4 k r e).go s7⟩ g1 g2 g3
end
end W43
/-! What data shows: one text exactly for one coset; sizes. -/
namespace OW
open PySem PySem.Spec PyProof.Rows L2
def ch (s : Str) : List Nat := s.cps.toList
theorem ch_app (a b : Str) : ch (a ++ b) = ch a ++ ch b := by
  unfold ch
  rw [Str.cps_append, Array.toList_append]
theorem ch_inj {a b : Str} (h : ch a = ch b) : a = b := by
  obtain ⟨x⟩ := a
  obtain ⟨y⟩ := b
  unfold ch at h
  have : x = y := Array.toList_inj.mp h
  rw [this]
def dg (i : Int) : List Nat := ch (PyData.int i).shown
theorem dg_free {i : Int} {k : Nat} (h : k < 45) : k ∉ dg i := shown_int_free (.inl h) i
theorem ofString_inj {s t : String} (h : Str.ofString s = Str.ofString t) : s = t := by
  rw [Str.ofString_eq_toList, Str.ofString_eq_toList] at h
  have h1 : (s.toList.map Char.toNat).toArray = (t.toList.map Char.toNat).toArray := by injection h
  have h2 : s.toList.map Char.toNat = t.toList.map Char.toNat := by simpa using h1
  have h3 : s.toList = t.toList := (List.map_inj_right (fun a b e => Char.toNat_inj.mp e)).mp h2
  exact String.toList_inj.mp h3
theorem dg_inj {i j : Int} (h : dg i = dg j) : i = j := by
  have h := ch_inj h
  rw [PyData.shown_int, PyData.shown_int] at h
  exact Int.repr_injective (ofString_inj h)
/-- no sign that ends a number -/
def Plain (l : List Nat) : Prop := ∀ x ∈ l, x ≠ 44 ∧ x ≠ 41
theorem dg_plain (i : Int) : Plain (dg i) := fun x hx => ⟨fun e => dg_free (k := 44) (by decide) (e ▸ hx), fun e => dg_free (k := 41) (by decide) (e ▸ hx)⟩
theorem split_eq : ∀ {a b : List Nat} {x y : Nat} {r s : List Nat}, Plain a → Plain b → (x = 44 ∨ x = 41) → (y = 44 ∨ y = 41) → a ++ x :: r = b ++ y :: s → a = b ∧ x = y ∧ r = s
  | [], [], x, y, r, s, _, _, _, _, h => by simpa using h
  | [], c :: b, x, y, r, s, _, hb, hx, _, h => by
    have e : x = c := by simpa using (List.cons.inj h).1
    have := hb c (by simp)
    omega
  | c :: a, [], x, y, r, s, ha, _, _, hy, h => by
    have e : c = y := (List.cons.inj h).1
    have := ha c (by simp)
    omega
  | c :: a, d :: b, x, y, r, s, ha, hb, hx, hy, h => by
    obtain ⟨e1, e2⟩ := List.cons.inj h
    obtain ⟨e3, e4, e5⟩ := split_eq (a := a) (b := b) (fun z hz => ha z (by simp [hz])) (fun z hz => hb z (by simp [hz])) hx hy e2
    exact ⟨by rw [e1, e3], e4, e5⟩
def J' : Int → List Int → List Nat
  | y, [] => dg y ++ [41]
  | y, z :: r => dg y ++ 44 :: 32 :: J' z r
def J : List Int → List Nat
  | [] => [41]
  | [x] => dg x ++ [44, 41]
  | x :: y :: r => dg x ++ 44 :: 32 :: J' y r
theorem J'_inj : ∀ {y z : Int} {r s : List Int}, J' y r = J' z s → y = z ∧ r = s
  | y, z, [], [], h => by
    obtain ⟨e, _, _⟩ := split_eq (dg_plain y) (dg_plain z) (.inr rfl) (.inr rfl) (show dg y ++ 41 :: [] = dg z ++ 41 :: [] from h)
    exact ⟨dg_inj e, rfl⟩
  | y, z, [], b :: s, h => by
    obtain ⟨_, e, _⟩ := split_eq (dg_plain y) (dg_plain z) (.inr rfl) (.inl rfl) (show dg y ++ 41 :: [] = dg z ++ 44 :: (32 :: J' b s) from h)
    cases e
  | y, z, a :: r, [], h => by
    obtain ⟨_, e, _⟩ := split_eq (dg_plain y) (dg_plain z) (.inl rfl) (.inr rfl) (show dg y ++ 44 :: (32 :: J' a r) = dg z ++ 41 :: [] from h)
    cases e
  | y, z, a :: r, b :: s, h => by
    obtain ⟨e1, _, e2⟩ := split_eq (dg_plain y) (dg_plain z) (.inl rfl) (.inl rfl) (show dg y ++ 44 :: (32 :: J' a r) = dg z ++ 44 :: (32 :: J' b s) from h)
    obtain ⟨e3, e4⟩ := J'_inj (List.cons.inj e2).2
    exact ⟨dg_inj e1, by rw [e3, e4]⟩
theorem dg_ne (x : Int) : ∀ {r s : List Nat}, 41 :: r ≠ dg x ++ 44 :: s := fun {r s} h => by
  obtain ⟨_, e, _⟩ := split_eq (a := []) (fun _ z => (nomatch z)) (dg_plain x) (.inr rfl) (.inl rfl) h
  cases e
theorem J_inj : ∀ {t u : List Int}, J t = J u → t = u
  | [], [], _ => rfl
  | [], [x], h => absurd h (dg_ne x)
  | [], x :: y :: r, h => absurd h (dg_ne x)
  | [x], [], h => absurd h.symm (dg_ne x)
  | x :: y :: r, [], h => absurd h.symm (dg_ne x)
  | [x], [y], h => by
    obtain ⟨e, _, _⟩ := split_eq (dg_plain x) (dg_plain y) (.inl rfl) (.inl rfl) (show dg x ++ 44 :: [41] = dg y ++ 44 :: [41] from h)
    rw [dg_inj e]
  | [x], y :: z :: r, h => by
    obtain ⟨_, _, e⟩ := split_eq (dg_plain x) (dg_plain y) (.inl rfl) (.inl rfl) (show dg x ++ 44 :: [41] = dg y ++ 44 :: (32 :: J' z r) from h)
    cases e
  | x :: z :: r, [y], h => by
    obtain ⟨_, _, e⟩ := split_eq (dg_plain x) (dg_plain y) (.inl rfl) (.inl rfl) (show dg x ++ 44 :: (32 :: J' z r) = dg y ++ 44 :: [41] from h)
    cases e
  | x :: a :: r, y :: b :: s, h => by
    obtain ⟨e1, _, e2⟩ := split_eq (dg_plain x) (dg_plain y) (.inl rfl) (.inl rfl) (show dg x ++ 44 :: (32 :: J' a r) = dg y ++ 44 :: (32 :: J' b s) from h)
    obtain ⟨e3, e4⟩ := J'_inj (List.cons.inj e2).2
    rw [dg_inj e1, e3, e4]
theorem ch_comma : ch (Str.ofString ", ") = [44, 32] := by decide +kernel
theorem ch_open : ch (Str.ofString "(") = [40] := by decide +kernel
theorem ch_end (c : Bool) : ch (Str.ofString (if c = true then ",)" else ")")) = if c = true then [44, 41] else [41] := by
  cases c <;> decide +kernel
theorem join_J' : ∀ (y : Int) (r : List Int), ch ((Str.ofString ", ").join (PyData.shownAll (ivD (y :: r)))) ++ [41] = J' y r
  | y, [] => by
    show ch ((Str.ofString ", ").join [(PyData.int y).shown]) ++ [41] = _
    rfl
  | y, z :: r => by
    have ih := join_J' z r
    show ch ((PyData.int y).shown ++ Str.ofString ", " ++ (Str.ofString ", ").join (PyData.shownAll (ivD (z :: r)))) ++ [41] = dg y ++ 44 :: 32 :: J' z r
    rw [ch_app, ch_app, ch_comma, List.append_assoc, ih]
    simp [dg]
theorem ch_iv : ∀ t : List Int, ch (PyData.tuple (ivD t)).shown = 40 :: J t
  | [] => by decide +kernel
  | [x] => by
    rw [PyData.shown_tuple, ch_app, ch_app, ch_open, ch_end]
    show [40] ++ dg x ++ [44, 41] = _
    simp [J]
  | x :: y :: r => by
    rw [PyData.shown_tuple, ch_app, ch_app, ch_open, ch_end]
    have e : ((ivD (x :: y :: r)).length == 1) = false := by simp [ivD]
    rw [e]
    have h := join_J' x (y :: r)
    show [40] ++ ch ((Str.ofString ", ").join (PyData.shownAll (ivD (x :: y :: r)))) ++ [41] = 40 :: (dg x ++ 44 :: 32 :: J' y r)
    rw [List.append_assoc, h]; rfl
theorem ch_cos (p : Nat) (t : List Int) : ch (cosD p t).shown = 40 :: (dg p ++ 44 :: 32 :: (40 :: J t ++ [41])) := by
  unfold cosD
  rw [PyData.shown_tuple, ch_app, ch_app, ch_open, ch_end]
  show [40] ++ ch ((PyData.int (p : Nat)).shown ++ Str.ofString ", " ++ (PyData.tuple (ivD t)).shown) ++ [41] = _
  rw [ch_app, ch_app, ch_comma, ch_iv]
  simp [dg]
/-- cosets show one text exactly if they are one -/
theorem cos_shown {p q : Nat} {t u : List Int} : (cosD p t).shown = (cosD q u).shown ↔ (p, t) = (q, u) := by
  refine ⟨fun h => ?_, fun h => by cases h; rfl⟩
  have h := congrArg ch h
  rw [ch_cos, ch_cos] at h
  obtain ⟨e1, _, e2⟩ := split_eq (dg_plain p) (dg_plain q) (.inl rfl) (.inl rfl) (List.cons.inj h).2
  have e3 : 40 :: J t ++ [41] = 40 :: J u ++ [41] := (List.cons.inj e2).2
  have e4 : 40 :: J t = 40 :: J u := List.append_cancel_right e3
  have e5 := J_inj (List.cons.inj e4).2
  have e6 : (p : Int) = q := dg_inj e1
  rw [e5, Int.ofNat_inj.mp e6]
/-! ### sizes -/
structure Fi (d : PyData) (m b : Nat) : Prop where
  show_ : d.showable = true
  dict : d.hasDict = false
  dep : d.depth ≤ m
  leaf : PyData.leavesShort 13 d = true
  bulk : d.bulk ≤ b
theorem Fi.use {d : PyData} {m b : Nat} (h : Fi d m b) (hm : m ≤ 30) (hb : b ≤ 2 ^ 20) : d.showable = true ∧ d.hasDict = false ∧ d.depth ≤ 30 ∧ d.shown.length ≤ sizeLine :=
  ⟨h.show_, h.dict, by have := h.dep; omega, PyData.shown_fits_bulk (by decide) (by decide) h.leaf (by have := h.bulk; omega)⟩
theorem Fi.mono {d : PyData} {m b m' b' : Nat} (h : Fi d m b) (hm : m ≤ m') (hb : b ≤ b') : Fi d m' b' :=
  ⟨h.show_, h.dict, Nat.le_trans h.dep hm, h.leaf, Nat.le_trans h.bulk hb⟩
theorem log2_small {n : Nat} (h : n < 10 ^ 12) : n.log2 < 1920 := by
  by_cases z : n = 0
  · subst z; decide
  · have : n.log2 < 40 := (Nat.log2_lt z).mpr (Nat.lt_trans h (by decide))
    omega
theorem fi_int {i : Int} (h : i.natAbs < 10 ^ 12) : Fi (.int i) 0 0 :=
  ⟨by rw [PyData.showable.eq_def]; exact decide_eq_true (log2_small h), rfl, Nat.le_refl 0, by rw [PyData.leavesShort.eq_def]; exact decide_eq_true (PyData.shown_int_le h), Nat.le_refl 0⟩
theorem fi_none : Fi .none 0 0 := ⟨rfl, rfl, Nat.le_refl 0, rfl, Nat.le_refl 0⟩
theorem fi_bool (b : Bool) : Fi (.bool b) 0 0 := ⟨rfl, rfl, Nat.le_refl 0, rfl, Nat.le_refl 0⟩
theorem fi_all : ∀ {ds : List PyData} {m b : Nat}, (∀ d ∈ ds, Fi d m b) → PyData.showableAll ds = true ∧ PyData.hasDictAll ds = false ∧ PyData.depthAll ds ≤ m ∧ PyData.leavesShortAll 13 ds = true ∧ PyData.bulkAll ds ≤ ds.length * (b + 1)
  | [], m, b, _ => ⟨rfl, rfl, Nat.zero_le _, rfl, Nat.zero_le _⟩
  | d :: ds, m, b, h => by
    obtain ⟨a1, a2, a3, a4, a5⟩ := fi_all (ds := ds) fun x hx => h x (by simp [hx])
    have f := h d (by simp)
    refine ⟨?_, ?_, ?_, ?_, ?_⟩
    · rw [PyData.showableAll.eq_def]; simp [f.show_, a1]
    · rw [PyData.hasDictAll.eq_def]; simp [f.dict, a2]
    · have := f.dep
      simp [PyData.depthAll]; omega
    · rw [PyData.leavesShortAll.eq_def]; simp [f.leaf, a4]
    · have := f.bulk
      rw [PyData.bulkAll.eq_def]
      have e : (d :: ds).length * (b + 1) = ds.length * (b + 1) + (b + 1) := by simp [Nat.succ_mul]
      simp only; omega
theorem fi_tuple {ds : List PyData} {m b : Nat} (h : ∀ d ∈ ds, Fi d m b) : Fi (.tuple ds) (m + 1) (ds.length * (b + 1)) := by
  obtain ⟨a1, a2, a3, a4, a5⟩ := fi_all h
  exact ⟨by rw [PyData.showable.eq_def]; exact a1, by rw [PyData.hasDict.eq_def]; exact a2, by simp [PyData.depth]; omega, by rw [PyData.leavesShort.eq_def]; exact a4, by rw [PyData.bulk.eq_def]; exact a5⟩
theorem fi_list {ds : List PyData} {m b : Nat} (h : ∀ d ∈ ds, Fi d m b) : Fi (.list ds) (m + 1) (ds.length * (b + 1)) := by
  obtain ⟨a1, a2, a3, a4, a5⟩ := fi_all h
  exact ⟨by rw [PyData.showable.eq_def]; exact a1, by rw [PyData.hasDict.eq_def]; exact a2, by simp [PyData.depth]; omega, by rw [PyData.leavesShort.eq_def]; exact a4, by rw [PyData.bulk.eq_def]; exact a5⟩
/-- signs of few acts -/
theorem fi_iv {x : List Int} {acts : Nat} (ha : acts ≤ 1000) (h : ∀ s ∈ x, s ∈ FG.signs acts) : Fi (.tuple (ivD x)) 1 x.length := by
  have := fi_tuple (ds := ivD x) (m := 0) (b := 0) fun d hd => by
    obtain ⟨s, hs, rfl⟩ := List.mem_map.mp hd
    have := FG.mem_signs.mp (h s hs)
    exact fi_int (Nat.lt_of_le_of_lt (Nat.le_trans this.2 ha) (by decide))
  simpa [ivD] using this
theorem fi_cos {x : List Int} {acts p : Nat} (ha : acts ≤ 1000) (h : ∀ s ∈ x, s ∈ FG.signs acts) (hp : p ≤ 1000000) (hl : x.length ≤ 10000) : Fi (cosD p x) 2 20002 := by
  have f := fi_iv ha h
  have := fi_tuple (ds := [.int (p : Nat), .tuple (ivD x)]) (m := 1) (b := 10000) fun d hd => by
    simp at hd
    rcases hd with rfl | rfl
    · exact (fi_int (by rw [Int.natAbs_natCast]; exact Nat.lt_of_le_of_lt hp (by decide))).mono (by decide) (by decide)
    · exact f.mono (Nat.le_refl 1) hl
  exact this
/-! ### graphs as data -/
def prD (δ : FG.Dl) (k j : Nat) : PyData := .tuple [od (δ k ((j : Int) + 1)), od (δ k (-((j : Int) + 1)))]
def rowD (acts : Nat) (δ : FG.Dl) (k : Nat) : PyData := .tuple ((List.range acts).map (prD δ k))
def grD (acts n : Nat) (δ : FG.Dl) : PyData := .tuple ((List.range n).map (rowD acts δ))
theorem grD_same {acts n : Nat} {δ δ2 : FG.Dl} (h : ∀ k, k < n → ∀ s ∈ FG.signs acts, δ k s = δ2 k s) : grD acts n δ = grD acts n δ2 := by
  unfold grD
  congr 1
  apply List.map_congr_left
  intro k hk
  have hk := List.mem_range.mp hk
  unfold rowD
  congr 1
  apply List.map_congr_left
  intro j hj
  have hj := List.mem_range.mp hj
  unfold prD
  rw [h k hk _ (FG.mem_signs.mpr ⟨by omega, by omega⟩), h k hk _ (FG.mem_signs.mpr ⟨by omega, by omega⟩)]
theorem dp_ov {K : PySem.W.Frag} {H : Hp} : ∀ o : Option Nat, Dp K H (ov o) (od o)
  | none => .non
  | some n => .int (n : Nat)
theorem dpAll_at {K : PySem.W.Frag} {H : Hp} : ∀ {as : List Addr} {f : Nat → PyData} {m : Nat}, (∀ (k : Nat) (a : Addr), as[k]? = some a → Dp K H (.ref a) (f (m + k))) → DpAll K H (as.map V.ref) ((List.range' m as.length).map f)
  | [], _, _, _ => .nil
  | a :: as, f, m, h => by
    rw [List.map_cons, List.length_cons, List.range'_succ, List.map_cons]
    refine .cons (h 0 a rfl) (dpAll_at fun k b hb => ?_)
    have := h (k + 1) b hb
    rwa [show m + (k + 1) = m + 1 + k by omega] at this
theorem GrAt.dp {K : PySem.W.Frag} {H : Hp} {a : Addr} {acts n : Nat} {δ : FG.Dl} (h : GrAt K H a acts n δ) : Dp K H (.ref a) (grD acts n δ) := by
  obtain ⟨rows, h1, h2, h3⟩ := h
  unfold grD
  refine .tup h1 ?_
  rw [← h2, List.range_eq_range']
  refine dpAll_at fun k r hr => ?_
  obtain ⟨prs, q1, q2, q3⟩ := h3 k r hr
  rw [Nat.zero_add]
  unfold rowD
  refine .tup q1 ?_
  rw [← q2, List.range_eq_range']
  refine dpAll_at fun j p hp => ?_
  rw [Nat.zero_add]
  exact .tup (q3 j p hp) (.cons (dp_ov _) (.cons (dp_ov _) .nil))
theorem fi_od {o : Option Nat} (h : ∀ q, o = some q → q ≤ 1000000) : Fi (od o) 0 0 := by
  cases o with
  | none => exact fi_none
  | some q =>
    refine fi_int ?_
    rw [Int.natAbs_natCast]
    exact Nat.lt_of_le_of_lt (h q rfl) (by decide)
theorem fi_gr {acts n : Nat} {δ : FG.Dl} (ha : acts ≤ 3) (hn : n ≤ 20000) (h : ∀ k s q, k < n → δ k s = some q → q ≤ 1000000) : Fi (grD acts n δ) 3 200000 := by
  have := fi_tuple (ds := (List.range n).map (rowD acts δ)) (m := 2) (b := 9) fun d hd => by
    obtain ⟨k, hk, rfl⟩ := List.mem_map.mp hd
    have hk := List.mem_range.mp hk
    have := fi_tuple (ds := (List.range acts).map (prD δ k)) (m := 1) (b := 2) fun d hd => by
      obtain ⟨j, hj, rfl⟩ := List.mem_map.mp hd
      exact fi_tuple (m := 0) (b := 0) fun d hd => by
        simp at hd
        rcases hd with rfl | rfl
        · exact fi_od fun q hq => h k _ q hk hq
        · exact fi_od fun q hq => h k _ q hk hq
    refine this.mono (Nat.le_refl _) ?_
    simp; omega
  refine this.mono (Nat.le_refl _) ?_
  simp; omega
end OW
/-! The end of a law whose body is walked at the law's own call alone: there nothing is being shown (the guards are empty). -/
namespace OW
open PySem PySem.Spec PyProof.Rows L2
/-- the heap of promises at the law's entry: the script alone, unless it is the module's own -/
theorem entry_heap {P : Program} {w : World} {K : PySem.W.Frag} {h : Heap} {a : Addr} {vs : List Value} {ns : List Int} (KX : K.In h)
    (ha : h.get? a = some { cls := .type "list", data := .seq vs.toArray }) (hi : IntsAre vs ns) (hl : ns.length ≤ sizeLine) :
    ∃ H : Hp, Only H ∧ SqL K H a (ns.map V.int) ∧ HOk P w H h ∧ (∀ b, H b ≠ none → b = a ∧ K.lookup a = none) := by
  have len := hi.length
  have vals := vals_ints hi
  cases own : K.lookup a with
  | some o =>
    have same := ha.symm.trans (KX a o own)
    injection same with same
    subst same
    exact ⟨fun _ => none, fun _ => .inl rfl, .inr ⟨_, vs.toArray, _, own, rfl, rfl, rfl, (by rw [List.size_toArray, len]; exact hl), by simpa using vals⟩, fun b u z => (by cases z), fun b z => absurd rfl z⟩
  | none =>
    let S : HO := .frz { cls := .type "list", data := .seq vs.toArray } (.lst (ns.map V.int))
    have at_a : (fun b => if b = a then some S else none : Hp) a = some S := if_pos rfl
    have off_a : ∀ b, b ≠ a → (fun b => if b = a then some S else none : Hp) b = none := fun b e => if_neg e
    refine ⟨fun b => if b = a then some S else none, fun b => ?_, .inl (.inr ⟨_, at_a⟩), fun b u e => ?_, fun b e => ⟨?_, rfl⟩⟩
    · by_cases c : b = a
      · subst c; exact .inr ⟨_, _, at_a⟩
      · exact .inl (off_a b c)
    · by_cases c : b = a
      · subst c
        have := at_a.symm.trans e
        injection this with this
        subst this
        exact ⟨ha, (by rw [List.length_map]; exact hl), vs, _, vals, ha⟩
      · have := (off_a b c).symm.trans e
        cases this
    · by_cases c : b = a
      · exact c
      · exact absurd (off_a b c) e
theorem end_own {l : PySem.W.OpenLaw} {n k : Nat} {q : Program} {loose : List Str} {XP : (Str → Option Value) → Heap → Prop} {YP : World → Heap → Prop} {d : DefRec} {x : Str} {N : List Str} {qual : Str} {params : Arguments} {body : List Stmt} {scope : Scope}
    (hn : l.most = some n) (hn2 : n ≤ sizeLine) (hdf : d.params.defaults = []) (room : Room (k + 1) callerA) (S : FnScope N [x] scope)
    (F : ∀ (w : World) (mg : Str → Option Value) (fa : Addr) (h : Heap), YP w h → h.Ns mainGlobals mg → mg d.name = some (.ref fa) →
      ∃ (K : PySem.W.Frag) (fd : FuncData), K.In h ∧ FunD K d.name qual params body scope [] [] fa fd ∧ (∀ (s : Shared) (u : Value), BindsTo s fd ⟨[u], []⟩ [(x, u)]) ∧
        ∀ (base : Heap) (cdv : Value) (s : Shared) (H : Hp) (a : Addr) (ns : List Int), ns.length ≤ n → Only H → SqL K H a (ns.map V.int) → Room k (callerA.deeper (envOfC qual scope s.heap.objs.size fa cdv)) →
          ∃ t, PSs (cxOf CX0 l.prog w K mg base N qual scope fa cdv callerA [] s H E0).nox body t ∧ t { nx := fun _ _ => False, rt := fun v _ => v = .bl true } (start N [.ref a]) H) :
    PySem.W.WalkO q loose XP YP l.row.toRowW d [] (fun f vs => PySem.call f vs) := by
  refine Att.attach_call hn hdf fun w t₀ t mg mb fa o pm cd doc a vs ns G Y ho hd hcd hmg hobj hints hlen gens => ?_
  obtain ⟨K, fd, KX, FD, bind, walk⟩ := F w mg fa _ Y G.T.g hmg
  obtain ⟨oc, od, dV, kV, doc2, pm2, an, cdv, ct, osl, efd, at_, code, _, _⟩ := FD.ex
  subst efd
  obtain ⟨H, only, seq, ok, mine⟩ := entry_heap (P := l.prog) (w := w) KX hobj hints (Nat.le_trans hlen hn2)
  -- what is not tracked stands in the base
  have free : ∀ {b : Addr} {u : Obj}, t.heap.get? b = some u → (∀ z : Array Value, ∀ m, u.data ≠ .seq z m) → H b = none := fun {b u} e ne => by
    cases c : H b with
    | none => rfl
    | some v =>
      obtain ⟨rfl, _⟩ := mine b (by rw [c]; exact Option.some_ne_none v)
      have := hobj.symm.trans e
      injection this with this
      subst this
      exact absurd rfl (ne _ _)
  have names : ∀ {b : Addr} {m : Str → Option Value}, t.heap.Ns b m → (hidT t.heap H).Ns b m := fun {b m} e => by
    obtain ⟨u, es, ep, e1, e2, e3⟩ := e
    exact ⟨u, es, ep, hidT_get e1 (free e1 fun z m c => by rw [e2] at c; cases c), e2, e3⟩
  have inB : K.In (hidT t.heap H) := fun b u e => by
    refine hidT_get (KX b u e) ?_
    cases c : H b with
    | none => rfl
    | some v =>
      obtain ⟨rfl, no⟩ := mine b (by rw [c]; exact Option.some_ne_none v)
      rw [no] at e; cases e
  have noLim : (hidT t.heap H).NoLimit := by
    obtain ⟨m, e1, e2⟩ := G.T.nolimit
    exact ⟨m, names e1, e2⟩
  have env : Env0 l.prog w K mg (hidT t.heap H) callerA [] t H :=
    { frames := rfl, mod := { kin := inB, glob := names G.T.g, blt := ⟨mb, names G.T.b, G.T.builtins⟩, nolimit := noLim }, bs := fun _ _ e => of_hidT e, bsz := by rw [hidT_size]; exact Nat.le_refl _,
      funs := trivial, frf := fun _ z => (by cases z), hok := ok, bare := .of_eq gens }
  have kinds : ∀ y ∈ [x].zip [Value.ref a], scope.names.lookup y.1 = some .local ∨ (scope.names.lookup y.1 = some .cell ∧ ((cellsFrom (t.heap.objs.size + 1) scope.names []).lookup y.1).isSome = true) := fun y hy => by
    have : y = (x, Value.ref a) := by simpa using hy
    subst this
    cases S.par x (List.mem_singleton.mpr rfl) with
    | inl c => exact .inl c
    | inr c => exact .inr ⟨c, PySem.W.cellsFrom_some _ _ _ (.inl c)⟩
  have bound : BindsTo t _ ⟨[Value.ref a], []⟩ ([x].zip [Value.ref a]) := bind t (.ref a)
  refine codeAny_call_function room.depth (KX _ _ at_) rfl S.co S.gen rfl (PySem.W.codeRec_of KX code) (bound _ _ _ _ (wpAny_newFunctionEnv_cells S.kind kinds fun e he t1 inside => ?_))
  subst he
  obtain ⟨tb, good, goes⟩ := walk (hidT t.heap H) cdv t H a ns hlen only seq (room.deeper _)
  have I := inv_start (CX := CX0) (E := E0) (P := l.prog) (w := w) (f := fa) (cd := cdv) (qual := qual) (vs := [V.ref a]) S room.hd env rfl (.cons rfl .nil) inside
  refine ⟨G.T.nolimit.keeps inside.toInCall.keep, codeAny_func ?_⟩
  have last : ∀ {σ' : L2.St} {H' : Hp} {u : Value} {s' : Shared}, Inv (cxOf CX0 l.prog w K mg (hidT t.heap H) N qual scope fa cdv callerA [] t H E0) [] σ' H' s' → RelV (.bl true) u → u = .bool true ∧ OldK t.heap s'.heap ∧ s'.os = t.os ∧ AllBare s'.gens := fun {σ' H' u s'} J r => by
    refine ⟨r, OldK.of_keep fun b v e => ?_, J.os, J.bare⟩
    cases c : H b with
    | none => exact J.base.keep b v e c (fun z => by cases z) (fun z => by cases z)
    | some z =>
      rcases only b with y | ⟨ob, xs, y⟩
      · rw [c] at y; cases y
      · have e1 := (ok b _ y).1
        have e2 := (J.hok b _ (J.base.frzs b ob _ y)).1
        rw [e1] at e
        injection e with e
        subst e
        exact e2
  refine wpAny_mono (good.nox.run [] t1 (start N [V.ref a]) H _ I goes) (fun fl s' end_ => ?_) fun e s' bad => ?_
  · cases fl with
    | ret u =>
      obtain ⟨v, σ', H', J, r, rfl⟩ := end_
      obtain ⟨rfl, r2, r3, r4⟩ := last J r
      exact ⟨rfl, r2, r3, r4⟩
    | next => obtain ⟨_, _, _, no⟩ := end_; exact no.elim
    | brk => obtain ⟨_, _, _, no⟩ := end_; exact no.elim
    | cont => obtain ⟨_, _, _, no⟩ := end_; exact no.elim
  · exact PySem.wpAny_mono bad (fun _ _ z => False.elim z) (fun _ _ z => False.elim z)
end OW
namespace FG
theorem readOn_tail (δ : Dl) : ∀ (x : W) (p : Nat), ∃ u, x = u ++ (readOn δ p x).2
  | [], p => ⟨[], rfl⟩
  | s :: x, p => by
    unfold readOn
    cases e : δ p s with
    | none => exact ⟨[], rfl⟩
    | some q =>
      obtain ⟨u, hu⟩ := readOn_tail δ x q
      exact ⟨s :: u, by simp only [List.cons_append]; rw [← hu]⟩
theorem readOn_lt {δ : Dl} {n : Nat} (hI : ∀ p s q, p < n → δ p s = some q → q < n) : ∀ (x : W) (p : Nat), p < n → (readOn δ p x).1 < n
  | [], p, h => h
  | s :: x, p, h => by
    unfold readOn
    cases e : δ p s with
    | none => exact h
    | some q => exact readOn_lt hI x q (hI p s q h e)
theorem readOn_same {δ δ2 : Dl} {n acts : Nat} (hI : ∀ p s q, p < n → δ p s = some q → q < n) (h : ∀ k, k < n → ∀ s ∈ signs acts, δ k s = δ2 k s) : ∀ (x : W) (p : Nat), p < n → (∀ s ∈ x, s ∈ signs acts) → readOn δ p x = readOn δ2 p x
  | [], p, _, _ => rfl
  | s :: x, p, hp, hx => by
    unfold readOn
    rw [← h p hp s (hx s (by simp))]
    cases e : δ p s with
    | none => rfl
    | some q => exact readOn_same hI h x q (hI p s q hp e) fun t ht => hx t (by simp [ht])
/-- where a word leads from home: a place and a tail -/
def co (δ : Dl) (x : W) : Cs := actW δ (0, []) x
theorem co_read {δ : Dl} {x : W} (h : Red x) : readOn δ 0 x = co δ x := (actW_read x 0 h).symm
theorem co_behind {δ : Dl} (hi : InvD δ) (x : W) : readOn δ 0 (net ([] ++ x)) = co δ x := behind hi (Val.base 0)
theorem co_net {δ : Dl} (hi : InvD δ) (x : W) : co δ (net x) = co δ x := actW_net hi (Val.base 0) x
theorem co_after {δ : Dl} (hi : InvD δ) (x y : W) : readOn δ (co δ x).1 (net ((co δ x).2 ++ y)) = co δ (x ++ y) := by
  have v : Val δ (co δ x) := (Val.base 0).actW x
  rw [behind hi (p := (co δ x).1) (t := (co δ x).2) v]
  unfold co
  rw [actW_append]
theorem co_fix {δ : Dl} {x : W} (h : Fix δ x) (y : W) : co δ (x ++ y) = co δ y := by
  unfold co
  rw [actW_append]
  unfold Fix at h
  rw [h]
theorem co_diff {δ : Dl} (hi : InvD δ) (x y : W) : co δ (x ++ undo y) = (0, []) ↔ co δ x = co δ y := fix_diff hi
theorem GraphOf.inn {D : List W} {n : Nat} {δ : Dl} {m : Nat → Nat} (g : GraphOf D n δ m) : ∀ p s q, p < n → δ p s = some q → q < n := fun p s q hp h => by
  have h2 := g.inv p s q h
  by_cases c : q < n
  · exact c
  · rw [g.out c] at h2; cases h2
theorem fix_flat {δ : Dl} (hi : InvD δ) {D ys : List W} (hD : ∀ d ∈ D, Fix δ d) (h : ∀ y ∈ ys, ∃ d ∈ D, y = d ∨ y = undo d) : Fix δ ys.flatten := by
  induction ys with
  | nil => exact Fix.nil
  | cons y ys ih =>
    obtain ⟨d, hd, e⟩ := h y (by simp)
    have f : Fix δ y := by
      rcases e with e | e
      · rw [e]; exact hD d hd
      · rw [e]; exact (hD d hd).undo hi
    rw [List.flatten_cons]
    exact f.append (ih fun z hz => h z (by simp [hz]))
theorem graph_nil {n : Nat} {δ : Dl} {m : Nat → Nat} (g : GraphOf [] n δ m) (h : 0 < n) : n = 1 ∧ ∀ s, δ 0 s = none := by
  have none_ : ∀ p s q, (p, s, q) ∉ flower [] := fun p s q z => by simp [flower, flowerE] at z
  refine ⟨?_, fun s => ?_⟩
  · have : ∀ k, k < n → k = 0 := fun k hk => by
      rcases g.all hk with z | ⟨p, s, q, z, _⟩
      · exact z
      · exact absurd z (none_ p s q)
    by_cases c : 1 < n
    · have := this 1 c; omega
    · omega
  · cases e : δ 0 s with
    | none => rfl
    | some q =>
      obtain ⟨p, r, z, _⟩ := g.back h e
      exact absurd z (none_ p s r)
end FG
namespace W43
open PySem PySem.Spec PyProof.Rows L2 OW
open FG (Red net undo push total readOn Dl Fix InvD co GraphOf)
section
variable {K : PySem.W.Frag}
theorem _root_.OW.GrAt.sv {H H' : Hp} {p c a : Addr} {acts n : Nat} {δ : Dl} (h : GrAt K H a acts n δ) (hS : SrAt H p c) (s : Sv p c H H') : GrAt K H' a acts n δ := by
  obtain ⟨rows, h1, h2, h3⟩ := h
  refine ⟨rows, s.tup hS h1, h2, fun k r hr => ?_⟩
  obtain ⟨prs, q1, q2, q3⟩ := h3 k r hr
  exact ⟨prs, s.tup hS q1, q2, fun j p hp => s.tup hS (q3 j p hp)⟩
theorem _root_.OW.CosAt.sv {H H' : Hp} {p c a : Addr} {q : Nat} {t : List Int} (h : CosAt K H a q t) (hS : SrAt H p c) (s : Sv p c H H') : CosAt K H' a q t := by
  obtain ⟨b, h1, h2⟩ := h
  exact ⟨b, s.tup hS h1, s.tup hS h2⟩
theorem _root_.OW.GrAt.upd {H : Hp} {a b : Addr} {acts n : Nat} {δ : Dl} {o u : HO} (h : GrAt K H a acts n δ) (hb : H b = some o) (n1 : ∀ xs, o ≠ .tup xs) (n2 : ∀ b xs, o ≠ .frz b (.tup xs)) : GrAt K (L2.upd H b u) a acts n δ := by
  obtain ⟨rows, h1, h2, h3⟩ := h
  refine ⟨rows, sqt_upd h1 hb (n1 _) (fun b => n2 b _), h2, fun k r hr => ?_⟩
  obtain ⟨prs, q1, q2, q3⟩ := h3 k r hr
  exact ⟨prs, sqt_upd q1 hb (n1 _) (fun b => n2 b _), q2, fun j p hp => sqt_upd (q3 j p hp) hb (n1 _) (fun b => n2 b _)⟩
theorem _root_.OW.CosAt.upd {H : Hp} {a b : Addr} {q : Nat} {t : List Int} {o u : HO} (h : CosAt K H a q t) (hb : H b = some o) (n1 : ∀ xs, o ≠ .tup xs) (n2 : ∀ b xs, o ≠ .frz b (.tup xs)) : CosAt K (L2.upd H b u) a q t := by
  obtain ⟨c, h1, h2⟩ := h
  exact ⟨c, sqt_upd h1 hb (n1 _) (fun b => n2 b _), sqt_upd h2 hb (n1 _) (fun b => n2 b _)⟩
/-- what stands through the law: the source, the doings, both graphs -/
structure LawAt (K : PySem.W.Frag) (H : Hp) (p c l g u : Addr) (as : List Addr) (D : List FG.W) (acts n : Nat) (δ δ2 : Dl) : Prop where
  src : SrAt H p c
  lst : H l = some (.lst (rv as))
  nl : l ≠ p ∧ l ≠ c
  doi : DoAt K H as D
  gra : GrAt K H g acts n δ
  due : GrAt K H u acts n δ2
section
variable {H H' : Hp} {p c l g u : Addr} {as : List Addr} {D : List FG.W} {acts n : Nat} {δ δ2 : Dl}
theorem LawAt.go (h : LawAt K H p c l g u as D acts n δ δ2) (s : Same H H') : LawAt K H' p c l g u as D acts n δ δ2 :=
  ⟨h.src.go s, s _ _ h.lst, h.nl, h.doi.go s, h.gra.go s, h.due.go s⟩
theorem LawAt.sv (h : LawAt K H p c l g u as D acts n δ δ2) (s : Sv p c H H') (S : SrAt H' p c) : LawAt K H' p c l g u as D acts n δ δ2 :=
  ⟨S, s _ _ h.nl.1 h.nl.2 h.lst, h.nl, h.doi.sv h.src s, h.gra.sv h.src s, h.due.sv h.src s⟩
theorem LawAt.upd {b : Addr} {xs : List V} {v : HO} (h : LawAt K H p c l g u as D acts n δ δ2) (hb : H b = some (.lst xs)) (n1 : b ≠ l) (n2 : b ≠ c) : LawAt K (L2.upd H b v) p c l g u as D acts n δ δ2 :=
  ⟨h.src.side hb (fun _ z => by cases z) n2, by rw [upd_ne n1.symm]; exact h.lst, h.nl, h.doi.upd hb (fun _ z => by cases z) (fun _ _ z => by cases z), h.gra.upd hb (fun _ z => by cases z) (fun _ _ z => by cases z), h.due.upd hb (fun _ z => by cases z) (fun _ _ z => by cases z)⟩
end
/-- the turns ahead: cosets with their words -/
def TuAt (K : PySem.W.Frag) (H : Hp) (acts : Nat) (δ : Dl) (ks : List Addr) : Prop := ∀ t ∈ ks, ∃ (a b : Addr) (x : FG.W), SqT K H t [.ref a, .ref b] ∧ CosAt K H a (co δ x).1 (co δ x).2 ∧ SqT K H b (iv x) ∧ Red x ∧ (∀ s ∈ x, s ∈ FG.signs acts) ∧ x.length ≤ 8
section
variable {H H' : Hp} {p c : Addr} {acts : Nat} {δ : Dl} {ks : List Addr}
theorem TuAt.go (h : TuAt K H acts δ ks) (s : Same H H') : TuAt K H' acts δ ks := fun t ht => by
  obtain ⟨a, b, x, h1, h2, h3, h4⟩ := h t ht
  exact ⟨a, b, x, s.tup h1, h2.go s, s.tup h3, h4⟩
theorem TuAt.sv (h : TuAt K H acts δ ks) (hS : SrAt H p c) (s : Sv p c H H') : TuAt K H' acts δ ks := fun t ht => by
  obtain ⟨a, b, x, h1, h2, h3, h4⟩ := h t ht
  exact ⟨a, b, x, s.tup hS h1, h2.sv hS s, s.tup hS h3, h4⟩
theorem TuAt.upd {b : Addr} {xs : List V} {v : HO} (h : TuAt K H acts δ ks) (hb : H b = some (.lst xs)) : TuAt K (L2.upd H b v) acts δ ks := fun t ht => by
  obtain ⟨a, b', x, h1, h2, h3, h4⟩ := h t ht
  exact ⟨a, b', x, sqt_upd h1 hb (fun z => by cases z) (fun _ z => by cases z), h2.upd hb (fun _ z => by cases z) (fun _ _ z => by cases z), sqt_upd h3 hb (fun z => by cases z) (fun _ z => by cases z), h4⟩
end
/-- cosets' data fit -/
theorem fi_co {δ : Dl} {n acts : Nat} {x : FG.W} (hI : ∀ p s q, p < n → δ p s = some q → q < n) (hn : 0 < n) (hn2 : n ≤ 20000) (ha : acts ≤ 1000) (rx : Red x) (hx : ∀ s ∈ x, s ∈ FG.signs acts) (hl : x.length ≤ 10000) : Fi (cosD (co δ x).1 (co δ x).2) 2 20002 := by
  rw [← FG.co_read rx]
  obtain ⟨u, hu⟩ := FG.readOn_tail δ x 0
  have lt := FG.readOn_lt hI x 0 hn
  refine fi_cos ha (fun s hs => hx s (by rw [hu]; simp [hs])) (by omega) ?_
  have := congrArg List.length hu
  rw [List.length_append] at this
  omega
end
end W43
namespace W43
open PySem PySem.Spec PyProof.Rows L2 OW
open C8 (Cal Met Mak pe_c pe_mt pe_mt0 pe_mk)
open FG (Red net undo push total readOn Dl Fix InvD co GraphOf Num Eqv)
section
variable {P : Program} {w : World} {K : PySem.W.Frag} {mg : Str → Option Value} {base : Heap}
abbrev lawN : List Str := ["script", "source", "acts", "doings", "graph", "kept", "due", "known", "turn", "member", "any_one", "coset", "more", "late", "one", "other", "is_alike", "place", "row", "act", "ahead"]
theorem FG_total_le {D : List FG.W} {b : Nat} (h : ∀ d ∈ D, d.length ≤ b) : total D ≤ D.length * b := total_le h
theorem fi_doings {D : List FG.W} {acts : Nat} (ha : acts ≤ 1000) (hs : ∀ d ∈ D, ∀ s ∈ d, s ∈ FG.signs acts) (hl : ∀ d ∈ D, d.length ≤ 400) (h4 : D.length ≤ 4) : Fi (.list (doD D)) 2 2000 := by
  have := fi_list (ds := doD D) (m := 1) (b := 400) fun x hx => by
    obtain ⟨d, hd, rfl⟩ := List.mem_map.mp hx
    exact (fi_iv ha (hs d hd)).mono (Nat.le_refl 1) (hl d hd)
  refine this.mono (Nat.le_refl _) ?_
  simp [doD]; omega
theorem rep_use {d : PyData} {m b : Nat} {H : Hp} {v : V} {Q : VK} (hd : Dp K H v d) (f : Fi d m b) (hm : m ≤ 30) (hb : b ≤ 2 ^ 20) (q : Q (.str d.shown) H) : rRepr K [v] H Q := by
  obtain ⟨a1, a2, a3, a4⟩ := f.use hm hb
  exact ⟨v, d, rfl, hd, a1, a2, a3, a4, q⟩
theorem dp_rep {H : Hp} {t : Addr} (h : SqT K H t [.non, .non]) : ∀ n : Nat, DpAll K H (List.replicate n (V.ref t)) (List.replicate n (.tuple [.none, .none]))
  | 0 => .nil
  | n + 1 => by
    rw [List.replicate_succ, List.replicate_succ]
    exact .cons (.tup h (.cons .non (.cons .non .nil))) (dp_rep h n)
theorem rep_flat {t : Addr} : ∀ n : Nat, (List.replicate n [V.ref t]).flatten = List.replicate n (V.ref t)
  | 0 => rfl
  | n + 1 => by rw [List.replicate_succ, List.flatten_cons, rep_flat n, List.replicate_succ]; rfl
theorem zero_at {H : Hp} {e c : Addr} (he : H e = none) (hc : (L2.upd H e (.tup [])) c = none) : Same H (L2.upd (L2.upd H e (.tup [])) c (.tup [.int 0, .ref e])) ∧ CosAt K (L2.upd (L2.upd H e (.tup [])) c (.tup [.int 0, .ref e])) c 0 [] :=
  ⟨(Same.new he).trans (Same.new hc), e, SqT.of upd_same, (Same.new hc).tup (SqT.of upd_same)⟩
theorem law_walk (T : Tx K mg) (cdv : Value) (s : Shared) (H : Hp) (a : Addr) (ns : List Int) (hl : ns.length ≤ 63) (hS : SqL K H a (iv ns)) (hr : Room 4 (callerA.deeper (envOfC "law" (defScope s_law) s.heap.objs.size (He.ga K "law") cdv))) :
    ∃ t, PSs (cxOf L2.CX0 P w K mg base lawN "law" (defScope s_law) (He.ga K "law") cdv callerA [] s H L2.E0).nox (defBody s_law) t ∧ t { nx := fun _ _ => False, rt := fun v _ => v = .bl true } (start lawN [.ref a]) H := by
  have c_law_source := c_law_source (P := P) (w := w) (base := base) T
  have c_law_pick := c_law_pick (P := P) (w := w) (base := base) T
  have c_law_doings := c_law_doings (P := P) (w := w) (base := base) T
  have c_folded_graph := c_folded_graph (P := P) (w := w) (base := base) T
  have c_law_graph := c_law_graph (P := P) (w := w) (base := base) T
  have c_law_others := c_law_others (P := P) (w := w) (base := base) T
  have c_law_product := c_law_product (P := P) (w := w) (base := base) T
  have c_law_doing := c_law_doing (P := P) (w := w) (base := base) T
  have c_is_member := c_is_member (P := P) (w := w) (base := base) T
  have c_coset_behind := c_coset_behind (P := P) (w := w) (base := base) T
  have c_law_read := c_law_read (P := P) (w := w) (base := base) T
  have c_law_join := c_law_join (P := P) (w := w) (base := base) T
  have c_law_undone := c_law_undone (P := P) (w := w) (base := base) T
  have hg : (callerA.deeper (envOfC "law" (defScope s_law) s.heap.objs.size (He.ga K "law") cdv)).guards = some [] := rfl
  refine ⟨_, (pss_cons (ps_set (i := 1) sc_law.nd rfl (Or.inl rfl) (pe_c c_law_source hr (by decide) rfl (pa_cons (pv 0) pa_nil)))
      (pss_cons (ps_set (i := 2) sc_law.nd rfl (Or.inl rfl) (pe_op op_add pe_int (pe_c c_law_pick hr (by decide) rfl (pa_cons (pv 1) (pa_cons pe_int pa_nil)))))
      (pss_cons (ps_set (i := 3) sc_law.nd rfl (Or.inl rfl) (pe_c c_law_doings hr (by decide) rfl (pa_cons (pv 1) (pa_cons (pv 2) pa_nil))))
      (pss_cons (ps_par (i := 4) (j := 5) rfl sc_law.nd rfl rfl (by decide) rfl rfl (pa_cons (pe_c c_folded_graph hr (by decide) rfl (pa_cons (pv 2) (pa_cons (pe_callTy call_tupleR rfl T.z_tuple (by decide +kernel) (pa_cons (pv 3) pa_nil)) pa_nil))) (pa_cons (pe_callB (call_repr hg hr.units) rfl T.z_repr (by decide +kernel) (pa_cons (pv 3) pa_nil)) pa_nil)) (by rfl))
      (pss_cons (ps_set (i := 6) sc_law.nd rfl (Or.inl rfl) (pe_c c_law_graph hr (by decide) rfl (pa_cons (pv 2) (pa_cons (pv 3) pa_nil))))
      (pss_cons (ps_if (PW.pt (pw_or (pt_cmpR op_ne (pe_callB (call_repr hg hr.units) rfl T.z_repr (by decide +kernel) (pa_cons (pv 4) pa_nil)) (pe_callB (call_repr hg hr.units) rfl T.z_repr (by decide +kernel) (pa_cons (pv 6) pa_nil)) (nomark _)) (pw_or1 (pt_cmpR op_ne (pe_callB (call_repr hg hr.units) rfl T.z_repr (by decide +kernel) (pa_cons (pe_c c_folded_graph hr (by decide) rfl (pa_cons (pv 2) (pa_cons (pe_callTy call_tupleR rfl T.z_tuple (by decide +kernel) (pa_cons (pe_c c_law_others hr (by decide) rfl (pa_cons (pv 1) (pa_cons (pv 3) pa_nil))) pa_nil)) pa_nil))) pa_nil)) (pe_callB (call_repr hg hr.units) rfl T.z_repr (by decide +kernel) (pa_cons (pv 6) pa_nil)) (nomark _))))) (pss_one (ps_ret pe_bl)) pss_nil)
      (pss_cons (ps_set (i := 7) sc_law.nd rfl (Or.inl rfl) (pe_lst pa_nil))
      (pss_cons (ps_for PassesOwn.never rfl (pi_range1 rfl T.z_range (pa_cons pe_int pa_nil)) (pg_name (i := 8) sc_law.nd rfl (Or.inl rfl)) (pss_cons (ps_par (i := 9) (j := 10) rfl sc_law.nd rfl rfl (by decide) rfl rfl (pa_cons (pe_c c_law_product hr (by decide) rfl (pa_cons (pv 1) (pa_cons (pv 3) pa_nil))) (pa_cons (pe_c c_law_doing hr (by decide) rfl (pa_cons (pv 1) (pa_cons (pv 2) (pa_cons pe_int pa_nil)))) pa_nil)) (by rfl))
      (pss_cons (ps_if (PW.pt (pw_or (pt_cmpR op_notBl (pe_c c_is_member hr (by decide) rfl (pa_cons (pv 4) (pa_cons (pv 9) pa_nil))) pe_bl (nomark _)) (pw_or1 (pt_cmpR op_ne (pe_callB (call_repr hg hr.units) rfl T.z_repr (by decide +kernel) (pa_cons (pe_c c_coset_behind hr (by decide) rfl (pa_cons (pv 4) (pa_cons (pe_tup (pa_cons pe_int (pa_cons (pe_tup pa_nil) pa_nil))) (pa_cons (pv 9) pa_nil)))) pa_nil)) (pe_callB (call_repr hg hr.units) rfl T.z_repr (by decide +kernel) (pa_cons (pe_tup (pa_cons pe_int (pa_cons (pe_tup pa_nil) pa_nil))) pa_nil)) (nomark _))))) (pss_one (ps_ret pe_bl)) pss_nil)
      (pss_cons (ps_if (pt_cmpR op_ne (pe_callB (call_repr hg hr.units) rfl T.z_repr (by decide +kernel) (pa_cons (pe_c c_is_member hr (by decide) rfl (pa_cons (pv 4) (pa_cons (pv 10) pa_nil))) pa_nil)) (pe_callB (call_repr hg hr.units) rfl T.z_repr (by decide +kernel) (pa_cons (pe_cmpR (op_eqD hr.units) (pe_c c_law_read hr (by decide) rfl (pa_cons (pv 6) (pa_cons pe_int (pa_cons (pv 10) pa_nil)))) (pe_tup (pa_cons pe_int (pa_cons (pe_tup pa_nil) pa_nil))) (nomark _)) pa_nil)) (nomark _)) (pss_one (ps_ret pe_bl)) pss_nil)
      (pss_cons (ps_set (i := 11) sc_law.nd rfl (Or.inl rfl) (pe_c c_coset_behind hr (by decide) rfl (pa_cons (pv 4) (pa_cons (pe_tup (pa_cons pe_int (pa_cons (pe_tup pa_nil) pa_nil))) (pa_cons (pv 10) pa_nil)))))
      (pss_cons (ps_if (pt_cmpR op_ne (pe_callB (call_repr hg hr.units) rfl T.z_repr (by decide +kernel) (pa_cons (pv 11) pa_nil)) (pe_callB (call_repr hg hr.units) rfl T.z_repr (by decide +kernel) (pa_cons (pe_c c_law_read hr (by decide) rfl (pa_cons (pv 6) (pa_cons pe_int (pa_cons (pv 10) pa_nil)))) pa_nil)) (nomark _)) (pss_one (ps_ret pe_bl)) pss_nil)
      (pss_cons (ps_if (pt_cmpR op_ne (pe_callB (call_repr hg hr.units) rfl T.z_repr (by decide +kernel) (pa_cons (pe_c c_coset_behind hr (by decide) rfl (pa_cons (pv 4) (pa_cons (pe_tup (pa_cons pe_int (pa_cons (pe_tup pa_nil) pa_nil))) (pa_cons (pe_c c_law_join hr (by decide) rfl (pa_cons (pe_lst (pa_cons (pv 9) (pa_cons (pv 10) pa_nil))) pa_nil)) pa_nil)))) pa_nil)) (pe_callB (call_repr hg hr.units) rfl T.z_repr (by decide +kernel) (pa_cons (pv 11) pa_nil)) (nomark _)) (pss_one (ps_ret pe_bl)) pss_nil)
      (pss_cons (ps_set (i := 12) sc_law.nd rfl (Or.inl rfl) (pe_c c_law_doing hr (by decide) rfl (pa_cons (pv 1) (pa_cons (pv 2) (pa_cons pe_int pa_nil)))))
      (pss_cons (ps_set (i := 13) sc_law.nd rfl (Or.inl rfl) (pe_c c_coset_behind hr (by decide) rfl (pa_cons (pv 4) (pa_cons (pv 11) (pa_cons (pv 12) pa_nil)))))
      (pss_cons (ps_if (pt_cmpR op_ne (pe_callB (call_repr hg hr.units) rfl T.z_repr (by decide +kernel) (pa_cons (pv 13) pa_nil)) (pe_callB (call_repr hg hr.units) rfl T.z_repr (by decide +kernel) (pa_cons (pe_c c_law_read hr (by decide) rfl (pa_cons (pv 6) (pa_cons pe_int (pa_cons (pe_c c_law_join hr (by decide) rfl (pa_cons (pe_lst (pa_cons (pv 10) (pa_cons (pv 12) pa_nil))) pa_nil)) pa_nil)))) pa_nil)) (nomark _)) (pss_one (ps_ret pe_bl)) pss_nil)
      (pss_cons (ps_for PassesOwn.never rfl (pi_list (pv 7)) (pg_tup rfl (pgs_cons (pg_name (i := 14) sc_law.nd rfl (Or.inl rfl)) (pgs_cons (pg_name (i := 15) sc_law.nd rfl (Or.inl rfl)) pgs_nil))) (pss_cons (ps_set (i := 16) sc_law.nd rfl (Or.inl rfl) (pe_c c_is_member hr (by decide) rfl (pa_cons (pv 4) (pa_cons (pe_c c_law_join hr (by decide) rfl (pa_cons (pe_lst (pa_cons (pv 10) (pa_cons (pe_c c_law_undone hr (by decide) rfl (pa_cons (pv 15) pa_nil)) pa_nil))) pa_nil)) pa_nil))))
      (pss_one (ps_if (pt_cmpR op_ne (pe_callB (call_repr hg hr.units) rfl T.z_repr (by decide +kernel) (pa_cons (pv 16) pa_nil)) (pe_callB (call_repr hg hr.units) rfl T.z_repr (by decide +kernel) (pa_cons (pe_cmpR op_eq (pe_callB (call_repr hg hr.units) rfl T.z_repr (by decide +kernel) (pa_cons (pv 14) pa_nil)) (pe_callB (call_repr hg hr.units) rfl T.z_repr (by decide +kernel) (pa_cons (pv 11) pa_nil)) (nomark _)) pa_nil)) (nomark _)) (pss_one (ps_ret pe_bl)) pss_nil))))
      (pss_one (ps_expr (pe_bm PySem.F.plainAttrs_list PySem.F.slot_list_append PySem.F.type_list_append mt_append (pv 7) (pa_cons (pe_tup (pa_cons (pv 11) (pa_cons (pv 10) pa_nil))) pa_nil)))))))))))))))
      (pss_cons (ps_for PassesOwn.never rfl (pi_enumT rfl T.z_enumerate (pa_cons (pv 4) pa_nil)) (pg_tup rfl (pgs_cons (pg_name (i := 17) sc_law.nd rfl (Or.inl rfl)) (pgs_cons (pg_name (i := 18) sc_law.nd rfl (Or.inl rfl)) pgs_nil))) (pss_one (ps_for PassesOwn.never rfl (pi_enumT rfl T.z_enumerate (pa_cons (pv 18) pa_nil)) (pg_tup rfl (pgs_cons (pg_name (i := 19) sc_law.nd rfl (Or.inl rfl)) (pgs_cons (pg_tup rfl (pgs_cons (pg_name (i := 13) sc_law.nd rfl (Or.inl rfl)) (pgs_cons (pg_name (i := 20) sc_law.nd rfl (Or.inl rfl)) pgs_nil))) pgs_nil))) (pss_one (ps_if (PW.pt (pw_or (PW.pt (pw_and (pt_cmpR op_notN (pv 13) pe_non (nomark _)) (pw_and1 (pt_cmpR op_ne (pe_ix ix_tup (pe_ix ix_tup (pe_ix ix_tup (pv 4) (pv 13) (fun _ _ => rfl)) (pv 19) (fun _ _ => rfl)) pe_int (fun _ _ => rfl)) (pv 17) (nomark _))))) (pw_or1 (PW.pt (pw_and (pt_cmpR op_notN (pv 20) pe_non (nomark _)) (pw_and1 (pt_cmpR op_ne (pe_ix ix_tup (pe_ix ix_tup (pe_ix ix_tup (pv 4) (pv 20) (fun _ _ => rfl)) (pv 19) (fun _ _ => rfl)) pe_int (fun _ _ => rfl)) (pv 17) (nomark _)))))))) (pss_one (ps_ret pe_bl)) pss_nil)))))
      (pss_one (ps_ret (pe_and (pe_cmpR op_eq (pe_callB (call_repr hg hr.units) rfl T.z_repr (by decide +kernel) (pa_cons (pv 3) pa_nil)) (pv 5) (nomark _)) (pe_one (pe_cmpR op_eq (pe_callB (call_repr hg hr.units) rfl T.z_repr (by decide +kernel) (pa_cons (pe_c c_folded_graph hr (by decide) rfl (pa_cons (pv 2) (pa_cons (pe_tup pa_nil) pa_nil))) pa_nil)) (pe_callB (call_repr hg hr.units) rfl T.z_repr (by decide +kernel) (pa_cons (pe_tup (pa_cons (pe_op op_repTA (pe_tup (pa_cons (pe_tup (pa_cons pe_non (pa_cons pe_non pa_nil))) pa_nil)) (pv 2)) pa_nil)) pa_nil)) (nomark _))))))))))))))), ?_⟩
  refine ⟨_, rfl, a, ns, rfl, hS, by omega, fun p c H1 s1 S1 np nc => ?_⟩
  refine ⟨_, rfl, p, c, 3, rfl, S1, by decide, by decide, fun r H2 s2 S2 r0 r1 => ?_⟩
  refine ⟨_, _, rfl, rfl, ?_⟩
  obtain ⟨acts, ha⟩ : ∃ acts : Nat, (1 : Int) + r = (acts : Nat) := ⟨(1 + r).toNat, by omega⟩
  have ea : (fun i j : Int => V.int (i + j)) 1 r = V.int (acts : Nat) := congrArg V.int ha
  dsimp only
  rw [ha]
  have a1 : 0 < acts := by omega
  have a3 : acts ≤ 3 := by omega
  have a4 : acts ≤ 1000 := by omega
  refine ⟨_, rfl, _, rfl, p, c, acts, rfl, S2, a1, a4, fun l as D H3 s3 S3 hl3 nl hD lD pD => ?_⟩
  have nlp : l ≠ p ∧ l ≠ c := S2.fresh nl
  -- graph, kept
  have tD : total D ≤ 1600 := by
    have := FG_total_le (D := D) (b := 400) fun d hd => (pD d hd).2.2
    omega
  have sD : ∀ d ∈ D, ∀ s ∈ d, s ∈ FG.signs acts := fun d hd => (pD d hd).2.1
  have rD : ∀ d ∈ D, Red d := fun d hd => (pD d hd).1
  refine ⟨_, rfl, _, rfl, l, _, rfl, .inl (SqL.of hl3), fun b H4 s4 hb => ?_⟩
  refine ⟨acts, b, as, D, rfl, hb, hD.go s4, a4, sD, by omega, fun g H5 n δ m s5 hG gG gN n0 nle => ?_⟩
  have n1 : n ≤ 2000 := by omega
  have s45 := s4.trans s5
  obtain ⟨f1, f2, f3, f4⟩ := (fi_doings a4 sD (fun d hd => (pD d hd).2.2) lD).use (by decide) (by decide)
  have dpD : ∀ {H' : Hp}, H' l = some (.lst (rv as)) → DoAt K H' as D → Dp K H' (.ref l) (.list (doD D)) := fun h1 h2 => .lst (SqL.of h1) h2.dp
  have hl5 := s45 _ _ hl3
  refine ⟨_, rfl, _, _, rfl, dpD hl5 (hD.go s45), f1, f2, f3, f4, ?_⟩
  refine ⟨_, _, rfl, ?_⟩
  -- due
  refine ⟨_, rfl, _, rfl, acts, l, as, D, rfl, hl5, hD.go s45, a1, a4, sD, by omega, fun u H6 n2 δ2 m2 s6 hU gU gUN n02 => ?_⟩
  have S6 := (S3.go s45).go s6
  have fixG : ∀ d ∈ D, Fix δ d := fun d hd => gG.fix hd (rD d hd)
  have fixU : ∀ d ∈ D, Fix δ2 d := fun d hd => gU.fix hd (rD d hd)
  obtain ⟨en, same⟩ := FG.graph_one gG gU rD rD fixU fixG n0 n02 gN gUN
  subst en
  have inn := gG.inn
  have hi := gG.inv
  have LA : LawAt K H6 p c l g u as D acts n δ δ2 := ⟨S6, s6 _ _ hl5, nlp, (hD.go s45).go s6, hG.go s6, hU⟩
  have grs : grD acts n δ = grD acts n δ2 := grD_same same
  have bnd : ∀ k s q, k < n → δ k s = some q → q ≤ 1000000 := fun k s q hk h => by have := inn k s q hk h; omega
  obtain ⟨g1, g2, g3, g4⟩ := (fi_gr (n := n) (δ := δ) a3 (by omega) bnd).use (by decide) (by decide)
  have u1 := g1; have u2 := g2; have u3 := g3; have u4 := g4
  rw [grs] at u1 u2 u3 u4
  refine ⟨_, rfl, _, _, rfl, LA.gra.dp, g1, g2, g3, g4, _, rfl, _, _, rfl, LA.due.dp, u1, u2, u3, u4, rfl, _, rfl, ?_⟩
  refine ite2 (fun c1 => absurd (by rw [grs]) (ne_yes c1)) (fun _ => ?_)
  refine ⟨_, rfl, _, rfl, _, rfl, p, c, l, as, D, acts, rfl, LA.src, LA.lst, LA.nl.2, LA.doi, lD, pD, fun l' as' D' H7 s7 S7 hl7 nl7 hD7 lD7 pD7 eqv => ?_⟩
  have LA7 := LA.sv s7 S7
  refine ⟨l', _, rfl, .inl (SqL.of hl7), fun b' H8 s8 hb8 => ?_⟩
  have LA8 := LA7.go s8
  have tD7 : total D' ≤ 50000 := by
    have := FG_total_le (D := D') (b := 10000) fun d hd => (pD7 d hd).2.2
    have : D'.length * 10000 ≤ 5 * 10000 := Nat.mul_le_mul_right _ lD7
    omega
  refine ⟨acts, b', as', D', rfl, hb8, hD7.go s8, a4, fun d hd => (pD7 d hd).2.1, by omega, fun g' H9 n' δ' m' s9 hG' gG' gN' n0' nle' => ?_⟩
  have LA9 := LA8.go s9
  have rD7 : ∀ d ∈ D', Red d := fun d hd => (pD7 d hd).1
  have fix7 : ∀ d ∈ D', Fix δ d := (eqv δ hi).mp fixG
  have fix9 : ∀ d ∈ D, Fix δ' d := (eqv δ' gG'.inv).mpr fun d hd => gG'.fix hd (rD7 d hd)
  obtain ⟨en, same'⟩ := FG.graph_one gG gG' rD rD7 fix9 fix7 n0 n0' gN gN'
  subst en
  have grs' : grD acts n δ = grD acts n δ' := grD_same same'
  have w1 := g1; have w2 := g2; have w3 := g3; have w4 := g4
  rw [grs'] at w1 w2 w3 w4
  refine ⟨_, _, rfl, hG'.dp, w1, w2, w3, w4, _, rfl, _, _, rfl, LA9.due.dp, u1, u2, u3, u4, rfl, _, rfl, ?_⟩
  refine ite2 (fun c1 => absurd (by rw [← grs', grs]) (ne_yes c1)) (fun _ => ?_)
  -- known = []
  refine ⟨Nat.zero_le _, fun kl hkl => ?_⟩
  obtain ⟨k1, k2⟩ := LA9.src.fresh hkl
  have k3 : kl ≠ l := (ne_of_none LA9.lst hkl).symm
  have LA10 := LA9.go (Same.new hkl (o := .lst []))
  generalize ekept : (PyData.list (doD D)).shown = kept
  have inn2 : Inn n δ2 := gU.inn
  have lrd : ∀ {x : FG.W}, Red x → (∀ s ∈ x, s ∈ FG.signs acts) → readOn δ2 0 x = co δ x := fun {x} rx sx => by
    rw [← FG.readOn_same inn same x 0 n0 sx, FG.co_read rx]
  have fc : ∀ {x : FG.W}, Red x → (∀ s ∈ x, s ∈ FG.signs acts) → x.length ≤ 10000 → (cosD (co δ x).1 (co δ x).2).showable = true ∧ (cosD (co δ x).1 (co δ x).2).hasDict = false ∧ (cosD (co δ x).1 (co δ x).2).depth ≤ 30 ∧ (cosD (co δ x).1 (co δ x).2).shown.length ≤ sizeLine := fun {x} rx sx lx =>
    (fi_co inn n0 (by omega) a4 rx sx lx).use (by decide) (by decide)
  have fb : ∀ t : Bool, (PyData.bool t).showable = true ∧ (PyData.bool t).hasDict = false ∧ (PyData.bool t).depth ≤ 30 ∧ (PyData.bool t).shown.length ≤ sizeLine := fun t => (fi_bool t).use (by decide) (by decide)
  have fz : (cosD 0 []).showable = true ∧ (cosD 0 []).hasDict = false ∧ (cosD 0 []).depth ≤ 30 ∧ (cosD 0 []).shown.length ≤ sizeLine := (fi_cos (x := []) (p := 0) a4 (fun _ z => (nomatch z)) (Nat.zero_le _) (Nat.zero_le _)).use (by decide) (by decide)
  refine ⟨8, rfl, by decide, by decide, ?_⟩
  refine for_range (lo := 0) (n := (8 : Int).toNat) (fun j σ H' => ∃ (ks : List Addr) (v8 v9 v10 v11 v12 v13 v14 v15 v16 : Option V), σ = [some (.ref a), some (.ref p), some (.int (acts : Nat)), some (.ref l), some (.ref g), some (.str kept), some (.ref u), some (.ref kl), v8, v9, v10, v11, v12, v13, v14, v15, v16, none, none, none, none] ∧
    LawAt K H' p c l g u as D acts n δ δ2 ∧ H' kl = some (.lst (rv ks)) ∧ TuAt K H' acts δ ks ∧ ks.length ≤ j) ⟨[], _, _, _, _, _, _, _, _, _, rfl, LA10, upd_same, fun t ht => (by cases ht), Nat.le_refl _⟩ ?_ ?_
  · rintro j σ H' hj ⟨ks, v8, v9, v10, v11, v12, v13, v14, v15, v16, rfl, L, hk, TU, lk⟩
    have hj : j < 8 := hj
    refine ⟨_, rfl, _, rfl, p, c, l, as, D, rfl, L.src, L.lst, L.nl.2, L.doi, by omega, fun d hd => by have := (pD d hd).2.2; omega, fun mb ys Ha sa Sa hmb hys lys => ?_⟩
    have hs0 := L.src
    have L := L.sv sa Sa
    refine ⟨_, rfl, _, rfl, p, c, acts, 8, rfl, Sa, a1, a4, by decide, fun ao x Hb sb Sb hao rx sx lx => ?_⟩
    have hmb := sb.tup Sa hmb
    have hk := sb _ _ k1 k2 (sa _ _ k1 k2 hk)
    have TU := (TU.sv hs0 sa).sv Sa sb
    have L := L.sv sb Sb
    refine ⟨_, _, rfl, ?_⟩
    have rm := FG.red_net ys.flatten
    have sm : ∀ s ∈ net ys.flatten, s ∈ FG.signs acts := fun s hs => by
      obtain ⟨y, hy, hs⟩ := List.mem_flatten.mp (FG.net_sub _ hs)
      obtain ⟨d, hd, e | e⟩ := hys y hy
      · rw [e] at hs; exact sD d hd s hs
      · rw [e] at hs; exact signs_undo (sD d hd) s hs
    have lm : (net ys.flatten).length ≤ 2000 := by
      have h1 := FG.net_len ys.flatten
      have h2 : ys.flatten.length = total ys := by simp [FG.total, List.length_flatten]
      have h3 := FG_total_le (D := ys) (b := 400) fun y hy => by
        obtain ⟨d, hd, e | e⟩ := hys y hy
        · rw [e]; exact (pD d hd).2.2
        · rw [e, undo_len]; exact (pD d hd).2.2
      have h4 : ys.length * 400 ≤ 5 * 400 := Nat.mul_le_mul_right _ lys
      omega
    have fm : Fix δ (net ys.flatten) := (Fix.net hi).mpr (FG.fix_flat hi fixG hys)
    generalize net ys.flatten = mx at *
    have em : co δ mx = (0, []) := fm
    -- the member
    refine ⟨_, rfl, _, rfl, g, mb, acts, n, mx, δ, rfl, L.gra, inn, hmb, n0, rm, sm, by omega, fun H1 s1 => ?_⟩
    rw [FG.co_read rm]
    have L := L.go s1
    have hk := s1 _ _ hk
    have TU := TU.go s1
    have hmb := s1.tup hmb
    have hao := s1.tup hao
    refine ⟨_, true, rfl, rfl, _, rfl, ?_⟩
    refine ite2 (fun c1 => absurd (decide_eq_true em) (ne_yes c1)) (fun _ => ?_)
    refine ⟨_, rfl, Nat.zero_le _, fun e1 he1 => ⟨by show 2 ≤ sizeLine; decide, fun c1 hc1 => ?_⟩⟩
    obtain ⟨s1, hz⟩ := zero_at (K := K) he1 hc1
    generalize L2.upd (L2.upd _ e1 (.tup [])) c1 (.tup [.int 0, .ref e1]) = H1 at *
    have L := L.go s1
    have hk := s1 _ _ hk
    have TU := TU.go s1
    have hmb := s1.tup hmb
    have hao := s1.tup hao
    refine ⟨_, rfl, g, c1, mb, acts, n, 0, [], mx, δ, rfl, L.gra, inn, hz, hmb, n0, trivial, rm, (fun _ z => (nomatch z)), sm, (by simp; omega), fun c2 H1 s1 hc2 => ?_⟩
    rw [FG.co_behind hi] at hc2
    have L := L.go s1
    have hk := s1 _ _ hk
    have TU := TU.go s1
    have hmb := s1.tup hmb
    have hao := s1.tup hao
    refine ⟨_, _, rfl, hc2.dp, (fc rm sm (by omega)).1, (fc rm sm (by omega)).2.1, (fc rm sm (by omega)).2.2.1, (fc rm sm (by omega)).2.2.2, ?_⟩
    refine ⟨Nat.zero_le _, fun e1 he1 => ⟨by show 2 ≤ sizeLine; decide, fun c1 hc1 => ?_⟩⟩
    obtain ⟨s1, hz⟩ := zero_at (K := K) he1 hc1
    generalize L2.upd (L2.upd _ e1 (.tup [])) c1 (.tup [.int 0, .ref e1]) = H1 at *
    have L := L.go s1
    have hk := s1 _ _ hk
    have TU := TU.go s1
    have hmb := s1.tup hmb
    have hao := s1.tup hao
    refine ⟨_, _, rfl, hz.dp, fz.1, fz.2.1, fz.2.2.1, fz.2.2.2, rfl, _, rfl, ?_⟩
    refine ite2 (fun c1 => absurd (by rw [em]) (ne_yes c1)) (fun _ => ?_)
    -- any one
    refine ⟨_, rfl, _, rfl, g, ao, acts, n, x, δ, rfl, L.gra, inn, hao, n0, rx, sx, by omega, fun H1 s1 => ?_⟩
    rw [FG.co_read rx]
    have L := L.go s1
    have hk := s1 _ _ hk
    have TU := TU.go s1
    have hmb := s1.tup hmb
    have hao := s1.tup hao
    refine ⟨_, _, rfl, .bl _, (fb _).1, (fb _).2.1, (fb _).2.2.1, (fb _).2.2.2, ?_⟩
    refine ⟨_, rfl, _, rfl, u, ao, acts, n, 0, x, δ2, rfl, L.due, inn2, hao, n0, sx, fun c2 H1 s1 hc2 => ?_⟩
    rw [lrd rx sx] at hc2
    have L := L.go s1
    have hk := s1 _ _ hk
    have TU := TU.go s1
    have hmb := s1.tup hmb
    have hao := s1.tup hao
    refine ⟨Nat.zero_le _, fun e1 he1 => ⟨by show 2 ≤ sizeLine; decide, fun c1 hc1 => ?_⟩⟩
    obtain ⟨s1, hz⟩ := zero_at (K := K) he1 hc1
    generalize L2.upd (L2.upd _ e1 (.tup [])) c1 (.tup [.int 0, .ref e1]) = H1 at *
    have hc2 := hc2.go s1
    have L := L.go s1
    have hk := s1 _ _ hk
    have TU := TU.go s1
    have hmb := s1.tup hmb
    have hao := s1.tup hao
    refine ⟨_, _, hc2.dp, hz.dp, shaped_cos _ _, shaped_cos _ _, ?_⟩
    rw [eqv_cos]
    refine ⟨_, _, rfl, .bl _, (fb _).1, (fb _).2.1, (fb _).2.2.1, (fb _).2.2.2, rfl, _, rfl, ?_⟩
    refine ite2 (fun c1 => absurd rfl (ne_yes c1)) (fun _ => ?_)
    -- coset
    refine ⟨_, rfl, Nat.zero_le _, fun e1 he1 => ⟨by show 2 ≤ sizeLine; decide, fun c1 hc1 => ?_⟩⟩
    obtain ⟨s1, hz⟩ := zero_at (K := K) he1 hc1
    generalize L2.upd (L2.upd _ e1 (.tup [])) c1 (.tup [.int 0, .ref e1]) = H1 at *
    have L := L.go s1
    have hk := s1 _ _ hk
    have TU := TU.go s1
    have hmb := s1.tup hmb
    have hao := s1.tup hao
    refine ⟨_, rfl, g, c1, ao, acts, n, 0, [], x, δ, rfl, L.gra, inn, hz, hao, n0, trivial, rx, (fun _ z => (nomatch z)), sx, (by simp; omega), fun cs H1 s1 hcs => ?_⟩
    rw [FG.co_behind hi] at hcs
    have L := L.go s1
    have hk := s1 _ _ hk
    have TU := TU.go s1
    have hmb := s1.tup hmb
    have hao := s1.tup hao
    refine ⟨_, rfl, _, _, rfl, hcs.dp, (fc rx sx (by omega)).1, (fc rx sx (by omega)).2.1, (fc rx sx (by omega)).2.2.1, (fc rx sx (by omega)).2.2.2, ?_⟩
    refine ⟨_, rfl, _, rfl, u, ao, acts, n, 0, x, δ2, rfl, L.due, inn2, hao, n0, sx, fun c2 H1 s1 hc2 => ?_⟩
    rw [lrd rx sx] at hc2
    have hcs := hcs.go s1
    have L := L.go s1
    have hk := s1 _ _ hk
    have TU := TU.go s1
    have hmb := s1.tup hmb
    have hao := s1.tup hao
    refine ⟨_, _, rfl, hc2.dp, (fc rx sx (by omega)).1, (fc rx sx (by omega)).2.1, (fc rx sx (by omega)).2.2.1, (fc rx sx (by omega)).2.2.2, rfl, _, rfl, ?_⟩
    refine ite2 (fun c1 => absurd rfl (ne_yes c1)) (fun _ => ?_)
    -- behind a member and any one
    refine ⟨_, rfl, Nat.zero_le _, fun e1 he1 => ⟨by show 2 ≤ sizeLine; decide, fun c1 hc1 => ?_⟩⟩
    obtain ⟨s1, hz⟩ := zero_at (K := K) he1 hc1
    generalize L2.upd (L2.upd _ e1 (.tup [])) c1 (.tup [.int 0, .ref e1]) = H1 at *
    have hcs := hcs.go s1
    have L := L.go s1
    have hk := s1 _ _ hk
    have TU := TU.go s1
    have hmb := s1.tup hmb
    have hao := s1.tup hao
    refine ⟨_, rfl, _, rfl, by show 2 ≤ sizeLine; decide, fun q hq => ?_⟩
    have s1 := Same.new (o := .lst [.ref mb, .ref ao]) hq
    have hz := hz.go s1
    have hcs := hcs.go s1
    have L := L.go s1
    have hk := s1 _ _ hk
    have TU := TU.go s1
    have hmb := s1.tup hmb
    have hao := s1.tup hao
    refine ⟨q, [mb, ao], [mx, x], rfl, SqL.of upd_same, DoAt.two hmb hao, by rw [show total [mx, x] = mx.length + x.length by simp [FG.total]]; omega, fun jb H1 s1 hjb => ?_⟩
    have hz := hz.go s1
    have hcs := hcs.go s1
    have L := L.go s1
    have hk := s1 _ _ hk
    have TU := TU.go s1
    have hmb := s1.tup hmb
    have hao := s1.tup hao
    rw [show [mx, x].flatten = mx ++ x by simp] at hjb
    have sj : ∀ s ∈ net (mx ++ x), s ∈ FG.signs acts := fun s hs => by
      rcases List.mem_append.mp (FG.net_sub _ hs) with z | z
      · exact sm s z
      · exact sx s z
    have lj : (net (mx ++ x)).length ≤ 2008 := by
      have := FG.net_len (mx ++ x)
      rw [List.length_append] at this
      omega
    refine ⟨g, c1, jb, acts, n, 0, [], net (mx ++ x), δ, rfl, L.gra, inn, hz, hjb, n0, trivial, (FG.red_net _), (fun _ z => (nomatch z)), sj, (by simp; omega), fun c2 H1 s1 hc2 => ?_⟩
    rw [FG.co_behind hi, FG.co_net hi, FG.co_fix fm] at hc2
    have hcs := hcs.go s1
    have L := L.go s1
    have hk := s1 _ _ hk
    have TU := TU.go s1
    have hmb := s1.tup hmb
    have hao := s1.tup hao
    refine ⟨_, _, rfl, hc2.dp, (fc rx sx (by omega)).1, (fc rx sx (by omega)).2.1, (fc rx sx (by omega)).2.2.1, (fc rx sx (by omega)).2.2.2, ?_⟩
    refine ⟨_, rfl, _, _, rfl, hcs.dp, (fc rx sx (by omega)).1, (fc rx sx (by omega)).2.1, (fc rx sx (by omega)).2.2.1, (fc rx sx (by omega)).2.2.2, rfl, _, rfl, ?_⟩
    refine ite2 (fun c1 => absurd rfl (ne_yes c1)) (fun _ => ?_)
    -- more
    refine ⟨_, rfl, _, rfl, p, c, acts, 6, rfl, L.src, a1, a4, by decide, fun mo y Hm sv1 Sm hmo ry sy ly => ?_⟩
    have hcs := hcs.sv L.src sv1
    have hmb := sv1.tup L.src hmb
    have hao := sv1.tup L.src hao
    have hk := sv1 _ _ k1 k2 hk
    have TU := TU.sv L.src sv1
    have L := L.sv sv1 Sm
    have cx := FG.co_read (δ := δ) rx
    have plt : (co δ x).1 < n := by rw [← cx]; exact FG.readOn_lt inn x 0 n0
    obtain ⟨pre, hpre⟩ := FG.readOn_tail δ x 0
    rw [cx] at hpre
    have tr : Red (co δ x).2 := by rw [hpre] at rx; exact Red.append_right rx
    have ts : ∀ s ∈ (co δ x).2, s ∈ FG.signs acts := fun s hs => sx s (by rw [hpre]; simp [hs])
    have tl : (co δ x).2.length ≤ 8 := by
      have := congrArg List.length hpre
      rw [List.length_append] at this
      omega
    have sn : ∀ s ∈ net (x ++ y), s ∈ FG.signs acts := fun s hs => by
      rcases List.mem_append.mp (FG.net_sub _ hs) with z | z
      · exact sx s z
      · exact sy s z
    have ln : (net (x ++ y)).length ≤ 14 := by
      have := FG.net_len (x ++ y)
      rw [List.length_append] at this
      omega
    refine ⟨_, rfl, _, rfl, _, rfl, g, cs, mo, acts, n, (co δ x).1, (co δ x).2, y, δ, rfl, L.gra, inn, hcs, hmo, plt, tr, ry, ts, sy, by omega, fun lt H1 s1 hlt => ?_⟩
    rw [FG.co_after hi, ← FG.co_net hi] at hlt
    have hcs := hcs.go s1
    have hmo := s1.tup hmo
    have L := L.go s1
    have hk := s1 _ _ hk
    have TU := TU.go s1
    have hmb := s1.tup hmb
    have hao := s1.tup hao
    refine ⟨_, rfl, _, _, rfl, hlt.dp, (fc (FG.red_net _) sn (by omega)).1, (fc (FG.red_net _) sn (by omega)).2.1, (fc (FG.red_net _) sn (by omega)).2.2.1, (fc (FG.red_net _) sn (by omega)).2.2.2, ?_⟩
    refine ⟨_, rfl, _, rfl, _, rfl, by show 2 ≤ sizeLine; decide, fun q hq => ?_⟩
    have s1 := Same.new (o := .lst [.ref ao, .ref mo]) hq
    have hcs := hcs.go s1
    have hmo := s1.tup hmo
    have L := L.go s1
    have hk := s1 _ _ hk
    have TU := TU.go s1
    have hmb := s1.tup hmb
    have hao := s1.tup hao
    refine ⟨q, [ao, mo], [x, y], rfl, SqL.of upd_same, DoAt.two hao hmo, by rw [show total [x, y] = x.length + y.length by simp [FG.total]]; omega, fun jb H1 s1 hjb => ?_⟩
    have hcs := hcs.go s1
    have L := L.go s1
    have hk := s1 _ _ hk
    have TU := TU.go s1
    have hmb := s1.tup hmb
    have hao := s1.tup hao
    rw [show [x, y].flatten = x ++ y by simp] at hjb
    refine ⟨u, jb, acts, n, 0, net (x ++ y), δ2, rfl, L.due, inn2, hjb, n0, sn, fun c2 H1 s1 hc2 => ?_⟩
    rw [lrd (FG.red_net _) sn] at hc2
    have hcs := hcs.go s1
    have L := L.go s1
    have hk := s1 _ _ hk
    have TU := TU.go s1
    have hmb := s1.tup hmb
    have hao := s1.tup hao
    refine ⟨_, _, rfl, hc2.dp, (fc (FG.red_net _) sn (by omega)).1, (fc (FG.red_net _) sn (by omega)).2.1, (fc (FG.red_net _) sn (by omega)).2.2.1, (fc (FG.red_net _) sn (by omega)).2.2.2, rfl, _, rfl, ?_⟩
    refine ite2 (fun c1 => absurd rfl (ne_yes c1)) (fun _ => ?_)
    -- the turns ahead
    refine ⟨_, rfl, kl, rfl, ⟨_, SqL.of hk⟩, ?_⟩
    refine for_list (K := K) (a := kl) (xs := rv ks) (fun i σ H' => ∃ (v8 v9 v12 v13 v14 v15 v16 : Option V), σ = [some (.ref a), some (.ref p), some (.int (acts : Nat)), some (.ref l), some (.ref g), some (.str kept), some (.ref u), some (.ref kl), v8, v9, some (.ref ao), some (.ref cs), v12, v13, v14, v15, v16, none, none, none, none] ∧
      LawAt K H' p c l g u as D acts n δ δ2 ∧ H' kl = some (.lst (rv ks)) ∧ TuAt K H' acts δ ks ∧ SqT K H' ao (iv x) ∧ CosAt K H' cs (co δ x).1 (co δ x).2) ⟨_, _, _, _, _, _, _, rfl, L, hk, TU, hao, hcs⟩ (fun i σ H' _ ⟨_, _, _, _, _, _, _, _, _, hk, _⟩ => SqL.of hk) ?_ ?_
    · rintro i v σ H' hv ⟨v8, v9, v12, v13, v14, v15, v16, rfl, L, hk, TU, hao, hcs⟩
      obtain ⟨t, hti, rfl⟩ := rv_get hv
      obtain ⟨oa, ob, z, ht, hoa, hob, rz, sz, lz⟩ := TU t (List.mem_of_getElem? hti)
      have hmb := hao
      refine ⟨t, _, rfl, ht, rfl, _, _, rfl, _, _, rfl, rfl, ?_⟩
      refine ⟨_, rfl, _, rfl, _, rfl, ob, z, rfl, hob, by omega, fun ub H1 s1 hub => ?_⟩
      have hcs := hcs.go s1
      have hoa := hoa.go s1
      have L := L.go s1
      have hk := s1 _ _ hk
      have TU := TU.go s1
      have hmb := s1.tup hmb
      have hao := s1.tup hao
      refine ⟨by show 2 ≤ sizeLine; decide, fun q hq => ?_⟩
      have s1 := Same.new (o := .lst [.ref ao, .ref ub]) hq
      have hcs := hcs.go s1
      have hoa := hoa.go s1
      have hub := s1.tup hub
      have L := L.go s1
      have hk := s1 _ _ hk
      have TU := TU.go s1
      have hmb := s1.tup hmb
      have hao := s1.tup hao
      have su := signs_undo sz
      have lu := undo_len z
      refine ⟨q, [ao, ub], [x, undo z], rfl, SqL.of upd_same, DoAt.two hao hub, by rw [show total [x, undo z] = x.length + (undo z).length by simp [FG.total]]; omega, fun jb H1 s1 hjb => ?_⟩
      have hcs := hcs.go s1
      have hoa := hoa.go s1
      have L := L.go s1
      have hk := s1 _ _ hk
      have TU := TU.go s1
      have hmb := s1.tup hmb
      have hao := s1.tup hao
      rw [show [x, undo z].flatten = x ++ undo z by simp] at hjb
      have sj : ∀ s ∈ net (x ++ undo z), s ∈ FG.signs acts := fun s hs => by
        rcases List.mem_append.mp (FG.net_sub _ hs) with y | y
        · exact sx s y
        · exact su s y
      have lj : (net (x ++ undo z)).length ≤ 16 := by
        have := FG.net_len (x ++ undo z)
        rw [List.length_append] at this
        omega
      refine ⟨g, jb, acts, n, net (x ++ undo z), δ, rfl, L.gra, inn, hjb, n0, (FG.red_net _), sj, by omega, fun H1 s1 => ?_⟩
      rw [FG.co_read (FG.red_net _), FG.co_net hi]
      have hcs := hcs.go s1
      have hoa := hoa.go s1
      have L := L.go s1
      have hk := s1 _ _ hk
      have TU := TU.go s1
      have hmb := s1.tup hmb
      have hao := s1.tup hao
      refine ⟨_, rfl, _, _, rfl, .bl _, (fb _).1, (fb _).2.1, (fb _).2.2.1, (fb _).2.2.2, ?_⟩
      refine ⟨_, rfl, _, _, rfl, hoa.dp, (fc rz sz (by omega)).1, (fc rz sz (by omega)).2.1, (fc rz sz (by omega)).2.2.1, (fc rz sz (by omega)).2.2.2, ?_⟩
      refine ⟨_, rfl, _, _, rfl, hcs.dp, (fc rx sx (by omega)).1, (fc rx sx (by omega)).2.1, (fc rx sx (by omega)).2.2.1, (fc rx sx (by omega)).2.2.2, rfl, ?_⟩
      refine ⟨_, _, rfl, .bl _, (fb _).1, (fb _).2.1, (fb _).2.2.1, (fb _).2.2.2, rfl, _, rfl, ?_⟩
      refine ite2 (fun c1 => absurd ?_ (ne_yes c1)) (fun _ => ?_)
      · have e1 : (co δ (x ++ undo z) = (0, [])) ↔ (V.str (cosD (co δ z).1 (co δ z).2).shown = V.str (cosD (co δ x).1 (co δ x).2).shown) := by
          rw [FG.co_diff hi]
          constructor
          · intro h; rw [h]
          · intro h
            injection h with h
            exact (cos_shown.mp h).symm
        have e2 : decide (co δ (x ++ undo z) = (0, [])) = decide (V.str (cosD (co δ z).1 (co δ z).2).shown = V.str (cosD (co δ x).1 (co δ x).2).shown) := decide_eq_decide.mpr e1
        rw [e2]
      · exact ⟨_, _, _, _, _, _, _, rfl, L, hk, TU, hao, hcs⟩
    · rintro σ H' ⟨v8, v9, v12, v13, v14, v15, v16, rfl, L, hk, TU, hao, hcs⟩
      refine ⟨_, rfl, .inl ⟨rfl, _, SqL.of hk⟩, _, rfl, _, rfl, by show 2 ≤ sizeLine; decide, fun t ht => ?_⟩
      have s1 := Same.new (o := .tup [.ref cs, .ref ao]) ht
      have hk1 := s1 _ _ hk
      have big : (1000 : Nat) < sizeLine := by decide
      refine ⟨kl, _, _, rfl, rfl, hk1, by rw [rv_len]; omega, ?_⟩
      refine ⟨ks ++ [t], _, _, _, _, _, _, _, _, _, rfl, (L.go s1).upd hk1 k3 k2, by rw [upd_same]; simp [rv], fun t' ht' => ?_, by simp; omega⟩
      refine TuAt.upd (ks := ks ++ [t]) ?_ hk1 t' ht'
      intro t' ht'
      rcases List.mem_append.mp ht' with y | y
      · exact TU.go s1 t' y
      · simp at y
        subst y
        exact ⟨cs, ao, x, SqT.of upd_same, hcs.go s1, s1.tup hao, rx, sx, lx⟩
  · rintro σ H' ⟨ks, v8, v9, v10, v11, v12, v13, v14, v15, v16, rfl, L, hk, TU, lk⟩
    obtain ⟨rows, h1, h2, h3⟩ := id L.gra
    refine ⟨_, rfl, g, _, rfl, h1, ?_⟩
    refine for_it (walk_enumT (xs := rows.map V.ref)) (fun k σ H2 => ∃ (v13 v17 v18 v19 v20 : Option V), σ = [some (.ref a), some (.ref p), some (.int (acts : Nat)), some (.ref l), some (.ref g), some (.str kept), some (.ref u), some (.ref kl), v8, v9, v10, v11, v12, v13, v14, v15, v16, v17, v18, v19, v20] ∧ Same H' H2) ⟨_, _, _, _, _, rfl, fun _ _ e => e⟩ (fun k σ H2 _ ⟨_, _, _, _, _, _, s1⟩ => s1.tup h1) ?_ ?_
    · rintro k v σ H2 H3 hk2 ⟨v13, v17, v18, v19, v20, rfl, s1⟩ ⟨T1, x1, x2, rfl, hT1, rfl, hx1, hx2⟩
      cases hx1
      obtain ⟨r, hr1, rfl⟩ := rv_get (as := rows) hx2
      have kn : k < n := by rw [← h2]; exact (List.getElem?_eq_some_iff.mp hr1).1
      obtain ⟨prs, q1, q2, q3⟩ := h3 k r hr1
      have s2 := s1.trans (Same.new (o := .tup [.int (k : Nat), .ref r]) hT1)
      refine ⟨T1, _, rfl, SqT.of upd_same, rfl, _, _, rfl, _, _, rfl, rfl, ?_⟩
      generalize L2.upd H2 T1 (.tup [.int (k : Nat), .ref r]) = H3 at *
      refine ⟨_, rfl, r, _, rfl, s2.tup q1, ?_⟩
      refine for_it (walk_enumT (xs := prs.map V.ref)) (fun j σ H4 => ∃ (v13 v19 v20 : Option V), σ = [some (.ref a), some (.ref p), some (.int (acts : Nat)), some (.ref l), some (.ref g), some (.str kept), some (.ref u), some (.ref kl), v8, v9, v10, v11, v12, v13, v14, v15, v16, some (.int (k : Nat)), some (.ref r), v19, v20] ∧ Same H' H4) ⟨_, _, _, rfl, s2⟩ (fun j σ H4 _ ⟨_, _, _, _, s3⟩ => s3.tup q1) ?_ ?_
      · rintro j v σ H4 H5 hj2 ⟨v13, v19, v20, rfl, s3⟩ ⟨T2, y1, y2, rfl, hT2, rfl, hy1, hy2⟩
        cases hy1
        obtain ⟨q, hq1, rfl⟩ := rv_get (as := prs) hy2
        have jn : j < acts := by rw [← q2]; exact (List.getElem?_eq_some_iff.mp hq1).1
        have s4 := s3.trans (Same.new (o := .tup [.int (j : Nat), .ref q]) hT2)
        have hq := s4.tup (q3 j q hq1)
        have hT := upd_same (H := H4) (a := T2) (o := .tup [.int (j : Nat), .ref q])
        generalize L2.upd H4 T2 (.tup [.int (j : Nat), .ref q]) = H5 at *
        have LA := L.go s4
        -- the edge back
        have back1 : ∀ x, δ k ((j : Int) + 1) = some x → ∃ (R Pp : List Addr) (r2 q2 : Addr), SqT K H5 g (R.map V.ref) ∧ (R.map V.ref)[x]? = some (.ref r2) ∧ SqT K H5 r2 (Pp.map V.ref) ∧ (Pp.map V.ref)[j]? = some (.ref q2) ∧ SqT K H5 q2 [ov (δ x ((j : Int) + 1)), .int (k : Nat)] := fun x e => by
          obtain ⟨R, Pp, r2, q2, e1, e2, e3, e4, e5⟩ := LA.gra.at (inn k _ x kn e) jn
          have := hi k _ x e
          rw [this] at e5
          exact ⟨R, Pp, r2, q2, e1, e2, e3, e4, e5⟩
        have back2 : ∀ x, δ k (-((j : Int) + 1)) = some x → ∃ (R Pp : List Addr) (r2 q2 : Addr), SqT K H5 g (R.map V.ref) ∧ (R.map V.ref)[x]? = some (.ref r2) ∧ SqT K H5 r2 (Pp.map V.ref) ∧ (Pp.map V.ref)[j]? = some (.ref q2) ∧ SqT K H5 q2 [.int (k : Nat), ov (δ x (-((j : Int) + 1)))] := fun x e => by
          obtain ⟨R, Pp, r2, q2, e1, e2, e3, e4, e5⟩ := LA.gra.at (inn k _ x kn e) jn
          have := hi k _ x e
          rw [Int.neg_neg] at this
          rw [this] at e5
          exact ⟨R, Pp, r2, q2, e1, e2, e3, e4, e5⟩
        cases ea1 : δ k ((j : Int) + 1) with
        | none =>
          rw [ea1] at hq
          cases ea2 : δ k (-((j : Int) + 1)) with
          | none =>
            rw [ea2] at hq
            refine ⟨T2, _, rfl, SqT.of hT, rfl, _, _, rfl, _, _, rfl, q, _, rfl, hq, rfl, _, _, rfl, _, _, rfl, rfl, rfl, ?_⟩
            refine ⟨_, rfl, rfl, _, rfl, ?_⟩
            refine iteF ?_
            refine iteF ?_
            refine ⟨_, rfl, rfl, _, rfl, ?_⟩
            refine iteF ?_
            refine iteF ?_
            exact ⟨_, _, _, rfl, s4⟩
          | some x2 =>
            rw [ea2] at hq
            obtain ⟨R, Pp, r2, p2, e1, e2, e3, e4, e5⟩ := back2 x2 ea2
            refine ⟨T2, _, rfl, SqT.of hT, rfl, _, _, rfl, _, _, rfl, q, _, rfl, hq, rfl, _, _, rfl, _, _, rfl, rfl, rfl, ?_⟩
            refine ⟨_, rfl, rfl, _, rfl, ?_⟩
            refine iteF ?_
            refine iteF ?_
            refine ⟨_, rfl, rfl, _, rfl, ?_⟩
            refine iteT ?_
            refine ⟨_, rfl, _, rfl, g, _, _, _, rfl, rfl, e1, atI_nat e2, _, rfl, r2, _, _, _, rfl, rfl, e3, atI_nat e4, p2, _, _, _, rfl, rfl, e5, at_of (j := 0) rfl rfl, _, rfl, rfl, _, rfl, ?_⟩
            refine ite2 (fun c => absurd rfl (ne_yes c)) (fun _ => ?_)
            exact ⟨_, _, _, rfl, s4⟩
        | some x1 =>
          rw [ea1] at hq
          obtain ⟨R, Pp, r2, p2, e1, e2, e3, e4, e5⟩ := back1 x1 ea1
          cases ea2 : δ k (-((j : Int) + 1)) with
          | none =>
            rw [ea2] at hq
            refine ⟨T2, _, rfl, SqT.of hT, rfl, _, _, rfl, _, _, rfl, q, _, rfl, hq, rfl, _, _, rfl, _, _, rfl, rfl, rfl, ?_⟩
            refine ⟨_, rfl, rfl, _, rfl, ?_⟩
            refine iteT ?_
            refine ⟨_, rfl, _, rfl, g, _, _, _, rfl, rfl, e1, atI_nat e2, _, rfl, r2, _, _, _, rfl, rfl, e3, atI_nat e4, p2, _, _, _, rfl, rfl, e5, at_of (j := 1) rfl rfl, _, rfl, rfl, _, rfl, ?_⟩
            refine ite2 (fun c => absurd rfl (ne_yes c)) (fun _ => ?_)
            refine ⟨_, rfl, rfl, _, rfl, ?_⟩
            refine iteF ?_
            refine iteF ?_
            exact ⟨_, _, _, rfl, s4⟩
          | some x2 =>
            rw [ea2] at hq
            obtain ⟨R2, Pp2, r3, p3, e6, e7, e8, e9, e10⟩ := back2 x2 ea2
            refine ⟨T2, _, rfl, SqT.of hT, rfl, _, _, rfl, _, _, rfl, q, _, rfl, hq, rfl, _, _, rfl, _, _, rfl, rfl, rfl, ?_⟩
            refine ⟨_, rfl, rfl, _, rfl, ?_⟩
            refine iteT ?_
            refine ⟨_, rfl, _, rfl, g, _, _, _, rfl, rfl, e1, atI_nat e2, _, rfl, r2, _, _, _, rfl, rfl, e3, atI_nat e4, p2, _, _, _, rfl, rfl, e5, at_of (j := 1) rfl rfl, _, rfl, rfl, _, rfl, ?_⟩
            refine ite2 (fun c => absurd rfl (ne_yes c)) (fun _ => ?_)
            refine ⟨_, rfl, rfl, _, rfl, ?_⟩
            refine iteT ?_
            refine ⟨_, rfl, _, rfl, g, _, _, _, rfl, rfl, e6, atI_nat e7, _, rfl, r3, _, _, _, rfl, rfl, e8, atI_nat e9, p3, _, _, _, rfl, rfl, e10, at_of (j := 0) rfl rfl, _, rfl, rfl, _, rfl, ?_⟩
            refine ite2 (fun c => absurd rfl (ne_yes c)) (fun _ => ?_)
            exact ⟨_, _, _, rfl, s4⟩
      · rintro σ H4 ⟨v13, v19, v20, rfl, s3⟩
        exact ⟨_, _, _, _, _, rfl, s3⟩
    · rintro σ H2 ⟨v13, v17, v18, v19, v20, rfl, s1⟩
      have LB := L.go s1
      refine ⟨_, rfl, _, _, rfl, dpD LB.lst LB.doi, f1, f2, f3, f4, _, rfl, rfl, _, rfl, ?_⟩
      refine ite2 (fun _ => ?_) (fun c => absurd (decide_eq_true (by rw [ekept])) c)
      refine ⟨_, rfl, Nat.zero_le _, fun e0 he0 => ?_⟩
      refine ⟨acts, e0, [], [], rfl, SqT.of upd_same, DoAt.nil, a4, (fun _ z => (nomatch z)), (Nat.zero_le _ : total [] ≤ 3000000), fun g0 H3 k0 δ0 m0 s2 hG0 gG0 _ k00 _ => ?_⟩
      obtain ⟨en, emp⟩ := FG.graph_nil gG0 k00
      subst en
      have d0 : grD acts 1 δ0 = .tuple [.tuple (List.replicate acts (.tuple [.none, .none]))] := by
        unfold grD rowD
        simp only [List.range_one, List.map_cons, List.map_nil]
        congr 2
        congr 1
        apply List.eq_replicate_iff.mpr
        refine ⟨by simp, fun d hd => ?_⟩
        obtain ⟨j, _, rfl⟩ := List.mem_map.mp hd
        unfold prD
        rw [emp, emp]; rfl
      have dp0 := hG0.dp
      obtain ⟨z1, z2, z3, z4⟩ := (fi_gr (acts := acts) (n := 1) (δ := δ0) a3 (by decide) (fun k s q hk h => by
        have : k = 0 := by omega
        subst this
        rw [emp] at h; cases h)).use (by decide) (by decide)
      rw [d0] at dp0 z1 z2 z3 z4
      refine ⟨_, _, rfl, dp0, z1, z2, z3, z4, ?_⟩
      refine ⟨by show 2 ≤ sizeLine; decide, fun t1 ht1 => ⟨by show 1 ≤ sizeLine; decide, fun t2 ht2 => ?_⟩⟩
      have y1 := Same.new (o := .tup [.ref t1]) ht2
      refine ⟨_, rfl, t2, _, _, rfl, rfl, SqT.of upd_same, by omega, by omega, by show 1 ≤ 1000; decide, fun t3 H4 s3 h3' => ⟨by show 1 ≤ sizeLine; decide, fun t4 ht4 => ?_⟩⟩
      have y2 := Same.new (o := .tup [.ref t3]) ht4
      have er : (List.replicate (acts : Int).toNat [V.ref t1]).flatten = List.replicate acts (V.ref t1) := by
        have : ((acts : Nat) : Int).toNat = acts := by omega
        rw [this]; exact rep_flat acts
      rw [er] at h3'
      have y3 : SqT K (L2.upd H4 t4 (.tup [.ref t3])) t1 [.non, .non] := y2.tup (s3.tup (y1.tup (SqT.of upd_same)))
      refine ⟨.ref t4, _, rfl, .tup (SqT.of upd_same) (.cons (.tup (y2.tup h3') (dp_rep y3 acts)) .nil), z1, z2, z3, z4, rfl, ?_⟩
      show V.bl (decide (V.str _ = V.str _)) = V.bl true
      rw [decide_eq_true rfl]
end
end W43
namespace W43
open PySem PySem.Spec PyProof.Rows L2
def d_cancelled : He.DefD := ⟨("cancelled", none), "cancelled", "cancelled", defArgs s_cancelled, defBody s_cancelled, defScope s_cancelled, [], []⟩
def d_joined : He.DefD := ⟨("joined", none), "joined", "joined", defArgs s_joined, defBody s_joined, defScope s_joined, [], []⟩
def d_act_signs : He.DefD := ⟨("act_signs", none), "act_signs", "act_signs", defArgs s_act_signs, defBody s_act_signs, defScope s_act_signs, [], []⟩
def d_Folding_init : He.DefD := ⟨("Folding", some "__init__"), "__init__", "Folding.__init__", defArgs s_Folding_init, defBody s_Folding_init, defScope s_Folding_init, [], []⟩
def d_Folding_place_for : He.DefD := ⟨("Folding", some "place_for"), "place_for", "Folding.place_for", defArgs s_Folding_place_for, defBody s_Folding_place_for, defScope s_Folding_place_for, [], []⟩
def d_Folding_new : He.DefD := ⟨("Folding", some "new"), "new", "Folding.new", defArgs s_Folding_new, defBody s_Folding_new, defScope s_Folding_new, [], []⟩
def d_Folding_put_end : He.DefD := ⟨("Folding", some "put_end"), "put_end", "Folding.put_end", defArgs s_Folding_put_end, defBody s_Folding_put_end, defScope s_Folding_put_end, [], []⟩
def d_Folding_put_edge : He.DefD := ⟨("Folding", some "put_edge"), "put_edge", "Folding.put_edge", defArgs s_Folding_put_edge, defBody s_Folding_put_edge, defScope s_Folding_put_edge, [], []⟩
def d_Folding_put_loop : He.DefD := ⟨("Folding", some "put_loop"), "put_loop", "Folding.put_loop", defArgs s_Folding_put_loop, defBody s_Folding_put_loop, defScope s_Folding_put_loop, [], []⟩
def d_Folding_fold : He.DefD := ⟨("Folding", some "fold"), "fold", "Folding.fold", defArgs s_Folding_fold, defBody s_Folding_fold, defScope s_Folding_fold, [], []⟩
def d_Folding_numbered : He.DefD := ⟨("Folding", some "numbered"), "numbered", "Folding.numbered", defArgs s_Folding_numbered, defBody s_Folding_numbered, defScope s_Folding_numbered, [], []⟩
def d_folded_graph : He.DefD := ⟨("folded_graph", none), "folded_graph", "folded_graph", defArgs s_folded_graph, defBody s_folded_graph, defScope s_folded_graph, [], []⟩
def d_read_on : He.DefD := ⟨("read_on", none), "read_on", "read_on", defArgs s_read_on, defBody s_read_on, defScope s_read_on, [], []⟩
def d_coset_behind : He.DefD := ⟨("coset_behind", none), "coset_behind", "coset_behind", defArgs s_coset_behind, defBody s_coset_behind, defScope s_coset_behind, [], []⟩
def d_is_member : He.DefD := ⟨("is_member", none), "is_member", "is_member", defArgs s_is_member, defBody s_is_member, defScope s_is_member, [], []⟩
def d_law_source : He.DefD := ⟨("_law_source", none), "_law_source", "_law_source", defArgs s_law_source, defBody s_law_source, defScope s_law_source, [], []⟩
def d_law_pick : He.DefD := ⟨("_law_pick", none), "_law_pick", "_law_pick", defArgs s_law_pick, defBody s_law_pick, defScope s_law_pick, [], []⟩
def d_law_of : He.DefD := ⟨("_law_of", none), "_law_of", "_law_of", defArgs s_law_of, defBody s_law_of, defScope s_law_of, [], []⟩
def d_law_mixed : He.DefD := ⟨("_law_mixed", none), "_law_mixed", "_law_mixed", defArgs s_law_mixed, defBody s_law_mixed, defScope s_law_mixed, [], []⟩
def d_law_join : He.DefD := ⟨("_law_join", none), "_law_join", "_law_join", defArgs s_law_join, defBody s_law_join, defScope s_law_join, [], []⟩
def d_law_undone : He.DefD := ⟨("_law_undone", none), "_law_undone", "_law_undone", defArgs s_law_undone, defBody s_law_undone, defScope s_law_undone, [], []⟩
def d_law_power : He.DefD := ⟨("_law_power", none), "_law_power", "_law_power", defArgs s_law_power, defBody s_law_power, defScope s_law_power, [], []⟩
def d_law_doing : He.DefD := ⟨("_law_doing", none), "_law_doing", "_law_doing", defArgs s_law_doing, defBody s_law_doing, defScope s_law_doing, [], []⟩
def d_law_signs : He.DefD := ⟨("_law_signs", none), "_law_signs", "_law_signs", defArgs s_law_signs, defBody s_law_signs, defScope s_law_signs, [], []⟩
def d_law_graph : He.DefD := ⟨("_law_graph", none), "_law_graph", "_law_graph", defArgs s_law_graph, defBody s_law_graph, defScope s_law_graph, [], []⟩
def d_law_read : He.DefD := ⟨("_law_read", none), "_law_read", "_law_read", defArgs s_law_read, defBody s_law_read, defScope s_law_read, [], []⟩
def d_law_doings : He.DefD := ⟨("_law_doings", none), "_law_doings", "_law_doings", defArgs s_law_doings, defBody s_law_doings, defScope s_law_doings, [], []⟩
def d_law_others : He.DefD := ⟨("_law_others", none), "_law_others", "_law_others", defArgs s_law_others, defBody s_law_others, defScope s_law_others, [], []⟩
def d_law_product : He.DefD := ⟨("_law_product", none), "_law_product", "_law_product", defArgs s_law_product, defBody s_law_product, defScope s_law_product, [], []⟩
def d_law : He.DefD := ⟨("law", none), "law", "law", defArgs s_law, defBody s_law, defScope s_law, [], []⟩
def fns : List He.DefD := [d_cancelled, d_joined, d_act_signs, d_Folding_init, d_Folding_place_for, d_Folding_new, d_Folding_put_end, d_Folding_put_edge, d_Folding_put_loop, d_Folding_fold, d_Folding_numbered, d_folded_graph, d_read_on, d_coset_behind, d_is_member, d_law_source, d_law_pick, d_law_of, d_law_mixed, d_law_join, d_law_undone, d_law_power, d_law_doing, d_law_signs, d_law_graph, d_law_read, d_law_doings, d_law_others, d_law_product, d_law]
def fas : List He.Fa := [.glo "cancelled", .glo "joined", .glo "act_signs", .glo "Folding", .cls "Folding", .mkr "Folding", .meth "Folding" "place_for", .meth "Folding" "new", .meth "Folding" "put_end", .meth "Folding" "put_edge", .meth "Folding" "put_loop", .meth "Folding" "fold", .meth "Folding" "numbered", .noat "Folding" "parents", .noat "Folding" "ends", .noat "Folding" "waiting", .glo "folded_graph", .glo "read_on", .glo "coset_behind", .glo "is_member", .glo "_law_source", .glo "_law_pick", .glo "_law_of", .glo "_law_mixed", .glo "_law_join", .glo "_law_undone", .glo "_law_power", .glo "_law_doing", .glo "_law_signs", .glo "_law_graph", .glo "_law_read", .glo "_law_doings", .glo "_law_others", .glo "_law_product", .glo "law", .free "abs", .free "dict", .free "enumerate", .free "int", .free "len", .free "list", .free "max", .free "min", .free "range", .free "repr", .free "sorted", .free "tuple"]
/-! facts:
0 .glo "cancelled"
1 .glo "joined"
2 .glo "act_signs"
3 .glo "Folding"
4 .cls "Folding"
5 .mkr "Folding"
6 .meth "Folding" "place_for"
7 .meth "Folding" "new"
8 .meth "Folding" "put_end"
9 .meth "Folding" "put_edge"
10 .meth "Folding" "put_loop"
11 .meth "Folding" "fold"
12 .meth "Folding" "numbered"
13 .noat "Folding" "parents"
14 .noat "Folding" "ends"
15 .noat "Folding" "waiting"
16 .glo "folded_graph"
17 .glo "read_on"
18 .glo "coset_behind"
19 .glo "is_member"
20 .glo "_law_source"
21 .glo "_law_pick"
22 .glo "_law_of"
23 .glo "_law_mixed"
24 .glo "_law_join"
25 .glo "_law_undone"
26 .glo "_law_power"
27 .glo "_law_doing"
28 .glo "_law_signs"
29 .glo "_law_graph"
30 .glo "_law_read"
31 .glo "_law_doings"
32 .glo "_law_others"
33 .glo "_law_product"
34 .glo "law"
35 .free "abs"
36 .free "dict"
37 .free "enumerate"
38 .free "int"
39 .free "len"
40 .free "list"
41 .free "max"
42 .free "min"
43 .free "range"
44 .free "repr"
45 .free "sorted"
46 .free "tuple"
def 0 d_cancelled
def 1 d_joined
def 2 d_act_signs
def 3 d_Folding_init
def 4 d_Folding_place_for
def 5 d_Folding_new
def 6 d_Folding_put_end
def 7 d_Folding_put_edge
def 8 d_Folding_put_loop
def 9 d_Folding_fold
def 10 d_Folding_numbered
def 11 d_folded_graph
def 12 d_read_on
def 13 d_coset_behind
def 14 d_is_member
def 15 d_law_source
def 16 d_law_pick
def 17 d_law_of
def 18 d_law_mixed
def 19 d_law_join
def 20 d_law_undone
def 21 d_law_power
def 22 d_law_doing
def 23 d_law_signs
def 24 d_law_graph
def 25 d_law_read
def 26 d_law_doings
def 27 d_law_others
def 28 d_law_product
def 29 d_law
-/
abbrev R : PySem.W.OpenRow := PySem.W.OpenLaw.row PySem.Challenge.rw_slippedwritings_k43_folded_graphs_by_own
abbrev hk : PySem.W.Hook := He.hookD 5 fas fns
def ob (s : PySem.W.SharedT) : He.AlD := He.obsDG 5 fas fns (HandSHeadRun.getT s)
theorem ob_eq (s : PySem.W.SharedT) : ob s = hk.obs s.abs := He.obsDG_eq (HandSHeadRun.getT_eq s)
def loose : List Str := ["cancelled", "joined", "act_signs", "Folding", "folded_graph", "read_on", "coset_behind", "is_member", "_law_source", "_law_pick", "_law_of", "_law_mixed", "_law_join", "_law_undone", "_law_power", "_law_doing", "_law_signs", "_law_graph", "_law_read", "_law_doings", "_law_others", "_law_product", "__name__"]
theorem tx_of {K : PySem.W.Frag} {h : Heap} {mg : Str → Option Value} (X : K.In h) (G : h.Ns mainGlobals mg) (c : He.SaysD fas fns K) : Tx K mg :=
  ⟨He.glo_ok X G (c.fact 0 rfl), He.glo_ok X G (c.fact 1 rfl), He.glo_ok X G (c.fact 2 rfl), He.glo_ok X G (c.fact 3 rfl), He.cls_ok (c.fact 4 rfl), He.mkr_ok (c.fact 5 rfl), He.meth_ok (c.fact 6 rfl), He.meth_ok (c.fact 7 rfl), He.meth_ok (c.fact 8 rfl), He.meth_ok (c.fact 9 rfl), He.meth_ok (c.fact 10 rfl), He.meth_ok (c.fact 11 rfl), He.meth_ok (c.fact 12 rfl), He.noat_ok (c.fact 13 rfl), He.noat_ok (c.fact 14 rfl), He.noat_ok (c.fact 15 rfl), He.glo_ok X G (c.fact 16 rfl), He.glo_ok X G (c.fact 17 rfl), He.glo_ok X G (c.fact 18 rfl), He.glo_ok X G (c.fact 19 rfl), He.glo_ok X G (c.fact 20 rfl), He.glo_ok X G (c.fact 21 rfl), He.glo_ok X G (c.fact 22 rfl), He.glo_ok X G (c.fact 23 rfl), He.glo_ok X G (c.fact 24 rfl), He.glo_ok X G (c.fact 25 rfl), He.glo_ok X G (c.fact 26 rfl), He.glo_ok X G (c.fact 27 rfl), He.glo_ok X G (c.fact 28 rfl), He.glo_ok X G (c.fact 29 rfl), He.glo_ok X G (c.fact 30 rfl), He.glo_ok X G (c.fact 31 rfl), He.glo_ok X G (c.fact 32 rfl), He.glo_ok X G (c.fact 33 rfl), He.glo_ok X G (c.fact 34 rfl), He.free_ok X G (c.fact 35 rfl), He.free_ok X G (c.fact 36 rfl), He.free_ok X G (c.fact 37 rfl), He.free_ok X G (c.fact 38 rfl), He.free_ok X G (c.fact 39 rfl), He.free_ok X G (c.fact 40 rfl), He.free_ok X G (c.fact 41 rfl), He.free_ok X G (c.fact 42 rfl), He.free_ok X G (c.fact 43 rfl), He.free_ok X G (c.fact 44 rfl), He.free_ok X G (c.fact 45 rfl), He.free_ok X G (c.fact 46 rfl), c.def_ 0 rfl, c.def_ 1 rfl, c.def_ 2 rfl, c.def_ 3 rfl, c.def_ 4 rfl, c.def_ 5 rfl, c.def_ 6 rfl, c.def_ 7 rfl, c.def_ 8 rfl, c.def_ 9 rfl, c.def_ 10 rfl, c.def_ 11 rfl, c.def_ 12 rfl, c.def_ 13 rfl, c.def_ 14 rfl, c.def_ 15 rfl, c.def_ 16 rfl, c.def_ 17 rfl, c.def_ 18 rfl, c.def_ 19 rfl, c.def_ 20 rfl, c.def_ 21 rfl, c.def_ 22 rfl, c.def_ 23 rfl, c.def_ 24 rfl, c.def_ 25 rfl, c.def_ 26 rfl, c.def_ 27 rfl, c.def_ 28 rfl, c.def_ 29 rfl⟩
theorem run (w : World) : HandSHeadRun.RunEq R (PySem.W.view R.prog [25]) hk ob 4000 loose w := by
  intro os
  kernel_rfl
end W43
open PySem PySem.W PySem.Calls PyProof.Rows in
theorem PySem.Challenge.cw_slippedwritings_k43_folded_graphs_by_own_holds : PySem.Challenge.rw_slippedwritings_k43_folded_graphs_by_own.Holds := by
  w_on; o_law
  refine HandSHeadRun.head_any (r := OpenLaw.row PySem.Challenge.rw_slippedwritings_k43_folded_graphs_by_own) (q := view (OpenLaw.row PySem.Challenge.rw_slippedwritings_k43_folded_graphs_by_own).prog [25]) (H := W43.hk) (ob := W43.ob) (M := 4000) (loose := W43.loose) (d := HandSHeadRun.topDef (OpenLaw.row PySem.Challenge.rw_slippedwritings_k43_folded_graphs_by_own).prog 25) (kwd := []) W43.ob_eq
    (by kernel_rfl) (fun s => by kernel_rfl) W43.run (by kernel_rfl) (by kernel_rfl) (by kernel_rfl) (by rfl) (by first | assumption | decide +kernel) (by decide +kernel) ⟨rfl, rfl, rfl, rfl, rfl, by decide +kernel⟩ ?hw ?hc
  case hw => w_witness2
  case hc =>
    have en : (HandSHeadRun.topDef (OpenLaw.row PySem.Challenge.rw_slippedwritings_k43_folded_graphs_by_own).prog 25).name = ("law" : PySem.Str) := by kernel_rfl
    refine OW.end_own (l := PySem.Challenge.rw_slippedwritings_k43_folded_graphs_by_own) (n := 63) (k := 4) (x := "script") (N := W43.lawN) (qual := "law") (params := L2.defArgs W43.s_law) (body := L2.defBody W43.s_law) (scope := L2.defScope W43.s_law) rfl (by decide) (by kernel_rfl) ⟨rfl, by decide, by decide⟩ W43.sc_law ?F
    intro w mg fa h Y G hmg
    obtain ⟨K, KX, c⟩ := Y
    rw [en] at hmg ⊢
    have T := W43.tx_of KX G c
    have e := hmg.symm.trans T.g_law
    cases e
    obtain ⟨fd, FD⟩ := T.d_law
    have b := L2.FunD.bindsA (ps := ["script"]) FD fun _ _ _ _ _ _ us hl => match us, hl with | [_], _ => rfl
    exact ⟨K, fd, KX, FD, fun s v => b s [v] rfl, fun base cdv s H a ns hl _ hS hr => W43.law_walk T cdv s H a ns hl hS hr⟩
