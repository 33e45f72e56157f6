import PyProof.Rows.All
import Wide.All
import OpenK.AllK
import Wide.FinOn
import HandS.ForMost
import HandS.Exc
import HandS.TryOnly
import HandS.ExcOwn
import HandS.Codes
import HandS.More
import HandS.Sort
import HandS.TupSets
import HandS.TupAny
import HandS.TupLe
import HandS.Deep
import HandS.Conv
import HandS.Style
import HandS.Flow
import HandS.DictComp
import HandS.SortInts
import KE.KDictKeyed
import KE.KDictDisplayH
import PySem.Challenge.RW_yardsort_k25_whole_turned_yards
import KE.GoesMore
import HandS.SlotsOwn
import KE.KEqSeq
import KE.KSortedM
import HandS.SortOrd
import HandS.SortRule
set_option Elab.async false
set_option linter.all false
set_option maxRecDepth 100000
set_option maxHeartbeats 4000000
namespace YM
/-! ### runs -/
section
variable {S M : Type} {step : S → M → S → Prop}
def Run (step : S → M → S → Prop) : S → List M → S → Prop
  | s, [], t => s = t
  | s, m :: ms, t => ∃ u, step s m u ∧ Run step u ms t
theorem Run.append : ∀ {a b : List M} {s t : S}, Run step s (a ++ b) t ↔ ∃ u, Run step s a u ∧ Run step u b t
  | [], b, s, t => ⟨fun h => ⟨s, rfl, h⟩, fun ⟨u, h1, h2⟩ => by cases h1; exact h2⟩
  | m :: a, b, s, t => by
    constructor
    · rintro ⟨u, h1, h2⟩
      obtain ⟨v, h3, h4⟩ := Run.append.mp h2
      exact ⟨v, ⟨u, h1, h3⟩, h4⟩
    · rintro ⟨v, ⟨u, h1, h3⟩, h4⟩
      exact ⟨u, h1, Run.append.mpr ⟨v, h3, h4⟩⟩
theorem Run.one {s t : S} {m : M} (h : step s m t) : Run step s [m] t := ⟨t, h, rfl⟩
theorem Run.snoc {a : List M} {m : M} {s t : S} : Run step s (a ++ [m]) t ↔ ∃ u, Run step s a u ∧ step u m t := by
  constructor
  · intro h
    obtain ⟨u, h1, v, h2, h3⟩ := Run.append.mp h
    cases h3
    exact ⟨u, h1, h2⟩
  · rintro ⟨u, h1, h2⟩
    exact Run.append.mpr ⟨u, h1, Run.one h2⟩
end
/-! ### a search, breadth first -/
section
variable {S M : Type} {step : S → M → S → Prop} {s0 : S}
abbrev Org (M : Type) := List (Option (Nat × M))
/-- the chain of moves that led to the k-th -/
inductive Chain (org : Org M) : Nat → List M → Prop
  | zero : Chain org 0 []
  | more {k j : Nat} {m : M} {ms : List M} : k ≠ 0 → org[k]? = some (some (j, m)) → Chain org j ms → Chain org k (ms ++ [m])
structure BI (step : S → M → S → Prop) (s0 : S) (met : List S) (org : Org M) (i : Nat) : Prop where
  len : org.length = met.length
  zero : met[0]? = some s0
  org0 : org[0]? = some none
  par : ∀ (k : Nat) (p : S), k ≠ 0 → met[k]? = some p → ∃ j m pj, org[k]? = some (some (j, m)) ∧ j < k ∧ j ≤ i ∧ met[j]? = some pj ∧ step pj m p
  mono : ∀ (k k' j j' : Nat) (m m' : M), k ≤ k' → org[k]? = some (some (j, m)) → org[k']? = some (some (j', m')) → j ≤ j'
/-- what stands ahead of c has been looked at -/
def Closed (step : S → M → S → Prop) (met : List S) (org : Org M) (c : Nat) : Prop :=
  ∀ (j : Nat) (pj : S) (m : M) (p : S), j < c → met[j]? = some pj → step pj m p → ∃ k : Nat, met[k]? = some p ∧ (k = 0 ∨ ∃ j' m', org[k]? = some (some (j', m')) ∧ j' ≤ j)
variable {met : List S} {org : Org M} {i : Nat}
theorem BI.start : BI step s0 [s0] [none] 0 where
  len := rfl
  zero := rfl
  org0 := rfl
  par := fun k p hk h => by
    have : k < 1 := (List.getElem?_eq_some_iff.mp h).1
    omega
  mono := fun k k' j j' m m' _ h _ => by
    obtain ⟨h1, h2⟩ := List.getElem?_eq_some_iff.mp h
    have : k = 0 := by simp at h1; omega
    subst this
    simp at h2
theorem BI.up (b : BI step s0 met org i) {i' : Nat} (h : i ≤ i') : BI step s0 met org i' where
  len := b.len
  zero := b.zero
  org0 := b.org0
  par := fun k p hk e => by
    obtain ⟨j, m, pj, h1, h2, h3, h4, h5⟩ := b.par k p hk e
    exact ⟨j, m, pj, h1, h2, Nat.le_trans h3 h, h4, h5⟩
  mono := b.mono
theorem get_app {α : Type} {l : List α} {x y : α} {k : Nat} (h : (l ++ [x])[k]? = some y) : (k < l.length ∧ l[k]? = some y) ∨ (k = l.length ∧ x = y) := by
  rw [List.getElem?_append] at h
  split at h
  · rename_i hk
    exact .inl ⟨hk, h⟩
  · rename_i hk
    have hk2 : k - l.length < 1 := (List.getElem?_eq_some_iff.mp h).1
    have e : k = l.length := by omega
    subst e
    simp at h
    exact .inr ⟨rfl, h⟩
theorem get_old {α : Type} {l r : List α} {y : α} {k : Nat} (h : l[k]? = some y) : (l ++ r)[k]? = some y := by
  rw [List.getElem?_append_left (List.getElem?_eq_some_iff.mp h).1]
  exact h
theorem BI.add (b : BI step s0 met org i) {p pi : S} {m : M} (hi : met[i]? = some pi) (hs : step pi m p) : BI step s0 (met ++ [p]) (org ++ [some (i, m)]) i where
  len := by simp [b.len]
  zero := get_old b.zero
  org0 := get_old b.org0
  par := fun k q hk h => by
    have hi' := (List.getElem?_eq_some_iff.mp hi).1
    rcases get_app h with ⟨h1, h2⟩ | ⟨h1, h2⟩
    · obtain ⟨j, m, pj, e1, e2, e3, e4, e5⟩ := b.par k q hk h2
      exact ⟨j, m, pj, get_old e1, e2, e3, get_old e4, e5⟩
    · subst h2
      refine ⟨i, m, pi, ?_, by omega, Nat.le_refl _, get_old hi, hs⟩
      rw [h1, ← b.len]
      simp
  mono := fun k k' j j' m1 m2 hk h1 h2 => by
    have bound : ∀ (k j : Nat) (m : M), org[k]? = some (some (j, m)) → j ≤ i := fun k j m e => by
      by_cases hk0 : k = 0
      · subst hk0
        rw [b.org0] at e
        cases e
      · have hl : k < met.length := by rw [← b.len]; exact (List.getElem?_eq_some_iff.mp e).1
        obtain ⟨j2, m2, pj, e1, e2, e3, _, _⟩ := b.par k met[k] hk0 (List.getElem?_eq_getElem hl)
        rw [e] at e1
        cases e1
        exact e3
    rcases get_app h2 with ⟨a1, a2⟩ | ⟨a1, a2⟩
    · rcases get_app h1 with ⟨b1, b2⟩ | ⟨b1, b2⟩
      · exact b.mono k k' j j' m1 m2 hk b2 a2
      · omega
    · cases a2
      rcases get_app h1 with ⟨b1, b2⟩ | ⟨b1, b2⟩
      · exact bound k j m1 b2
      · cases b2
        exact Nat.le_refl _
theorem BI.bound (b : BI step s0 met org i) {k j : Nat} {m : M} (e : org[k]? = some (some (j, m))) : j ≤ i ∧ j < k := by
  by_cases hk0 : k = 0
  · subst hk0
    rw [b.org0] at e
    cases e
  · have hl : k < met.length := by rw [← b.len]; exact (List.getElem?_eq_some_iff.mp e).1
    obtain ⟨j2, m2, pj, e1, e2, e3, _, _⟩ := b.par k met[k] hk0 (List.getElem?_eq_getElem hl)
    rw [e] at e1
    cases e1
    exact ⟨e3, e2⟩
theorem BI.chain (b : BI step s0 met org i) : ∀ (k : Nat), k < met.length → ∃ ms, Chain org k ms := by
  intro k
  induction k using Nat.strongRecOn with
  | ind k ih =>
    intro hk
    by_cases h0 : k = 0
    · subst h0
      exact ⟨[], .zero⟩
    · obtain ⟨j, m, pj, e1, e2, e3, e4, e5⟩ := b.par k met[k] h0 (List.getElem?_eq_getElem hk)
      obtain ⟨ms, hm⟩ := ih j e2 (by omega)
      exact ⟨ms ++ [m], .more h0 e1 hm⟩
theorem BI.run (b : BI step s0 met org i) {k : Nat} {ms : List M} (h : Chain org k ms) : ∀ p, met[k]? = some p → Run step s0 ms p := by
  induction h with
  | zero =>
    intro p hp
    rw [b.zero] at hp
    cases hp
    rfl
  | @more k j m ms h0 e1 _ ih =>
    intro p hp
    obtain ⟨j2, m2, pj, e2, _, _, e4, e5⟩ := b.par k p h0 hp
    rw [e1] at e2
    cases e2
    exact Run.snoc.mpr ⟨pj, ih pj e4, e5⟩
theorem BI.le (b : BI step s0 met org i) {k : Nat} {ms : List M} (h : Chain org k ms) : ∀ {k' : Nat} {ms' : List M}, Chain org k' ms' → k ≤ k' → ms.length ≤ ms'.length := by
  induction h with
  | zero => intro _ _ _ _; exact Nat.zero_le _
  | @more k j m ms h0 e1 _ ih =>
    intro k' ms' h' hk
    cases h' with
    | zero => omega
    | @more _ j' m' ms2 h0' e1' c' =>
      have := ih c' (b.mono k k' j j' m m' hk e1 e1')
      simp only [List.length_append, List.length_singleton]
      omega
/-- the goal is met while the i-th is looked at -/
theorem BI.fewest {goal : S → Prop} (b : BI step s0 met org i) (hc : Closed step met org i) {ms : List M} {last : Nat} {m : M} (hl : last + 1 = met.length) (ho : org[last]? = some (some (i, m)))
    (hng : ∀ k p, k < last → met[k]? = some p → ¬ goal p) (hch : Chain org last ms) {ms' : List M} {t : S} (hr : Run step s0 ms' t) (hg : goal t) : ms.length ≤ ms'.length := by
  cases hch with
  | zero =>
    exact Nat.zero_le _
  | @more _ j m2 msi h0 e1 ci =>
    rw [ho] at e1
    cases e1
    refine Decidable.byContradiction fun hlt => ?_
    have hlt : ms'.length ≤ msi.length := by
      simp only [List.length_append, List.length_singleton] at hlt
      omega
    have key : ∀ (n : Nat) (ms1 : List M) (s : S), ms1.length = n → n ≤ msi.length → Run step s0 ms1 s → ∃ k ms2, met[k]? = some s ∧ Chain org k ms2 ∧ ms2.length ≤ n := by
      intro n
      induction n with
      | zero =>
        intro ms1 s h1 _ h3
        have : ms1 = [] := List.eq_nil_of_length_eq_zero h1
        subst this
        cases h3
        exact ⟨0, [], b.zero, .zero, Nat.le_refl _⟩
      | succ n ih =>
        intro ms1 s h1 h2 h3
        obtain ⟨a, x, rfl⟩ : ∃ a x, ms1 = a ++ [x] := by
          have : ms1 ≠ [] := by intro e; subst e; simp at h1
          exact ⟨ms1.dropLast, ms1.getLast this, (List.dropLast_concat_getLast this).symm⟩
        obtain ⟨u, h4, h5⟩ := Run.snoc.mp h3
        simp only [List.length_append, List.length_singleton] at h1
        obtain ⟨k, ms2, k1, k2, k3⟩ := ih a u (by omega) (by omega) h4
        have hki : k < i := Decidable.byContradiction fun q => by
          have := b.le ci k2 (by omega)
          omega
        obtain ⟨k', q1, q2⟩ := hc k u x s hki k1 h5
        rcases q2 with q2 | ⟨j', m', q2, q3⟩
        · subst q2
          exact ⟨0, [], q1, .zero, Nat.zero_le _⟩
        · have hj' : j' < met.length := by
            have := (List.getElem?_eq_some_iff.mp k1).1
            omega
          obtain ⟨ms3, c3⟩ := b.chain j' hj'
          have l3 := b.le c3 k2 q3
          have hk0 : k' ≠ 0 := by
            intro e
            subst e
            rw [b.org0] at q2
            cases q2
          exact ⟨k', ms3 ++ [m'], q1, .more hk0 q2 c3, by simp only [List.length_append, List.length_singleton]; omega⟩
    obtain ⟨k, ms2, k1, k2, k3⟩ := key ms'.length ms' t rfl hlt hr
    have hkl : k < met.length := (List.getElem?_eq_some_iff.mp k1).1
    have : ¬ k < last := fun q => hng k t q k1 hg
    have e : k = last := by omega
    subst e
    have := b.le (Chain.more h0 ho ci) k2 (Nat.le_refl _)
    simp only [List.length_append, List.length_singleton] at this
    omega
/-- no goal is met, all have been looked at -/
theorem BI.never {goal : S → Prop} (b : BI step s0 met org i) (hc : Closed step met org met.length) (hng : ∀ p ∈ met, ¬ goal p) {ms' : List M} {t : S} (hr : Run step s0 ms' t) : ¬ goal t := by
  have key : ∀ (ms1 : List M) (s t : S), s ∈ met → Run step s ms1 t → t ∈ met := by
    intro ms1
    induction ms1 with
    | nil => intro s t hs h; cases h; exact hs
    | cons m ms ih =>
      rintro s t hs ⟨u, h1, h2⟩
      obtain ⟨j, hj, hs'⟩ := List.getElem_of_mem hs
      obtain ⟨k, q1, _⟩ := hc j s m u hj (by rw [List.getElem?_eq_getElem hj, hs']) h1
      exact ih u t (List.mem_of_getElem? q1) h2
  exact hng t (key ms' s0 t (List.mem_of_getElem? b.zero) hr)
end
/-! ### a list without repetition inside another one -/
theorem nodup_len {α : Type} [DecidableEq α] : ∀ {l r : List α}, l.Nodup → (∀ x ∈ l, x ∈ r) → l.length ≤ r.length
  | [], _, _, _ => Nat.zero_le _
  | x :: l, r, h, hs => by
    obtain ⟨h1, h2⟩ := List.nodup_cons.mp h
    have hx : x ∈ r := hs x List.mem_cons_self
    have := nodup_len (l := l) (r := r.erase x) h2 fun y hy => (List.mem_erase_of_ne (fun (e : y = x) => h1 (e ▸ hy))).mpr (hs y (List.mem_cons_of_mem _ hy))
    rw [List.length_erase_of_mem hx] at this
    have hp : 0 < r.length := List.length_pos_of_mem hx
    simp only [List.length_cons]
    omega
end YM
namespace YM
/-! ### yards, situations, moves -/
inductive Kd where | s | q | d | i | o
  deriving DecidableEq
def Kd.ins : Kd → List Int
  | .s => [1] | .q => [1] | .d => [0, 1] | .i => [1] | .o => [0, 1]
def Kd.outs : Kd → List Int
  | .s => [1] | .q => [0] | .d => [0, 1] | .i => [0, 1] | .o => [1]
def Kd.turn : Kd → Kd
  | .s => .s | .q => .q | .d => .d | .i => .o | .o => .i
structure Sit where
  came : Nat
  held : List (List Int)
  gone : List Int
  deriving DecidableEq
structure Yard where
  kinds : List Kd
  bounds : List Nat
  links : List (Int × Int)
abbrev Mv := Int × Int × Int × Int
def upTo (n : Nat) : List Int := (List.range n).map fun k => ((k : Nat) : Int) + 1
def Sit.live (s : Sit) : Prop := s.gone = upTo s.gone.length
instance (s : Sit) : Decidable s.live := inferInstanceAs (Decidable (_ = _))
def Yard.kind (Y : Yard) (k : Nat) : Kd := Y.kinds.getD k .s
def Yard.bound (Y : Yard) (k : Nat) : Nat := Y.bounds.getD k 0
def Yard.room (Y : Yard) (k c : Nat) : Bool := decide (Y.bound k = 0) || decide (c < Y.bound k)
def srcEnds (Y : Yard) (n : Nat) (s : Sit) (src : Int) : List Int :=
  if src = -1 then (if s.came < n then [0] else []) else if (s.held.getD src.toNat []).isEmpty then [] else (Y.kind src.toNat).outs
def tgtEnds (Y : Yard) (s : Sit) (tgt : Int) : List Int :=
  if tgt = -1 then [0] else if Y.room tgt.toNat (s.held.getD tgt.toNat []).length then (Y.kind tgt.toNat).ins else []
def Can (Y : Yard) (n : Nat) (s : Sit) (m : Mv) : Prop :=
  (m.1, m.2.2.1) ∈ Y.links ∧ m.2.1 ∈ srcEnds Y n s m.1 ∧ m.2.2.2 ∈ tgtEnds Y s m.2.2.1
def endOf (l : List Int) (e : Int) : Int := if e = 0 then l.headD 0 else l.getLastD 0
def cutAt (l : List Int) (e : Int) : List Int := if e = 0 then l.tail else l.dropLast
def putAt (l : List Int) (e : Int) (w : Int) : List Int := if e = 0 then w :: l else l ++ [w]
def wagon (row : List Int) (s : Sit) (m : Mv) : Int :=
  if m.1 = -1 then row.getD s.came 0 else endOf (s.held.getD m.1.toNat []) m.2.1
def out1 (s : Sit) (m : Mv) : List (List Int) :=
  if m.1 = -1 then s.held else s.held.set m.1.toNat (cutAt (s.held.getD m.1.toNat []) m.2.1)
def aft (row : List Int) (s : Sit) (m : Mv) : Sit where
  came := if m.1 = -1 then s.came + 1 else s.came
  held := if m.2.2.1 = -1 then out1 s m else (out1 s m).set m.2.2.1.toNat (putAt ((out1 s m).getD m.2.2.1.toNat []) m.2.2.2 (wagon row s m))
  gone := if m.2.2.1 = -1 then s.gone ++ [wagon row s m] else s.gone
def init (nd : Nat) : Sit := ⟨0, List.replicate nd [], []⟩
/-- a move that can be made, and what it leads to -/
def Mk (Y : Yard) (row : List Int) (s : Sit) (m : Mv) (t : Sit) : Prop := Can Y row.length s m ∧ t = aft row s m
/-- .. a live one -/
def Stp (Y : Yard) (row : List Int) (s : Sit) (m : Mv) (t : Sit) : Prop := Mk Y row s m t ∧ t.live
def Done (n : Nat) (s : Sit) : Prop := s.gone = upTo n
def Way (Y : Yard) (row : List Int) (ms : List Mv) : Prop := ∃ t, Run (Mk Y row) (init Y.kinds.length) ms t ∧ Done row.length t
theorem upTo_len (n : Nat) : (upTo n).length = n := by simp [upTo]
theorem upTo_succ (n : Nat) : upTo (n + 1) = upTo n ++ [((n : Nat) : Int) + 1] := by simp [upTo, List.range_succ]
theorem upTo_pre {l r : List Int} {n : Nat} (h : l ++ r = upTo n) : l = upTo l.length := by
  have h1 : (l ++ r).take l.length = l := by simp
  rw [h] at h1
  have hl : l.length ≤ n := by
    have := congrArg List.length h
    simp [upTo_len] at this
    omega
  have : (upTo n).take l.length = upTo l.length := by
    unfold upTo
    rw [← List.map_take, List.take_range, Nat.min_eq_left hl]
  rw [← this, h1]
theorem Done.live {n : Nat} {s : Sit} (h : Done n s) : s.live := by
  unfold Sit.live
  have h' : s.gone = upTo n := h
  have e : s.gone.length = n := by rw [h', upTo_len]
  rw [e]
  exact h
theorem done_iff {n : Nat} {s : Sit} (h : s.live) : Done n s ↔ s.gone.length = n := by
  constructor
  · intro e
    have e' : s.gone = upTo n := e
    rw [e', upTo_len]
  · intro e
    subst e
    exact h
/-- a run that ends sorted is live all along -/
theorem run_live {Y : Yard} {row : List Int} : ∀ {ms : List Mv} {s t : Sit}, Run (Mk Y row) s ms t → t.live → Run (Stp Y row) s ms t
  | [], _, _, h, _ => h
  | m :: ms, s, t, ⟨u, h1, h2⟩, hl => by
    have ih := run_live h2 hl
    refine ⟨u, ⟨h1, ?_⟩, ih⟩
    have pre : ∀ {ms : List Mv} {s t : Sit}, Run (Mk Y row) s ms t → ∃ r, t.gone = s.gone ++ r := by
      intro ms
      induction ms with
      | nil => intro s t h; cases h; exact ⟨[], by simp⟩
      | cons m ms ih =>
        rintro s t ⟨u, ⟨_, rfl⟩, h2⟩
        obtain ⟨r, hr⟩ := ih h2
        simp only [aft] at hr
        by_cases q : m.2.2.1 = -1
        · rw [if_pos q] at hr
          exact ⟨_, by rw [hr, List.append_assoc]⟩
        · rw [if_neg q] at hr
          exact ⟨r, hr⟩
    obtain ⟨r, hr⟩ := pre h2
    have hl' : t.gone = upTo t.gone.length := hl
    rw [hr] at hl'
    exact upTo_pre hl'
theorem run_mk {Y : Yard} {row : List Int} : ∀ {ms : List Mv} {s t : Sit}, Run (Stp Y row) s ms t → Run (Mk Y row) s ms t
  | [], _, _, h => h
  | _ :: _, _, _, ⟨u, h1, h2⟩ => ⟨u, h1.1, run_mk h2⟩
/-- what solve answers -/
def SolveOk (Y : Yard) (row : List Int) : Option (List Mv) → Prop
  | none => ∀ ms, ¬ Way Y row ms
  | some ms => Way Y row ms ∧ ∀ ms', Way Y row ms' → ms.length ≤ ms'.length
/-! ### what holds of every situation that is reached -/
structure WF (Y : Yard) (row : List Int) (s : Sit) : Prop where
  came : s.came ≤ row.length
  len : s.held.length = Y.kinds.length
  perm : (s.gone ++ s.held.flatten).Perm (row.take s.came)
  room : ∀ k l, s.held[k]? = some l → Y.bound k = 0 ∨ l.length ≤ Y.bound k
theorem perm_set : ∀ {L : List (List Int)} {k : Nat} {l l' r : List Int}, L[k]? = some l → (l ++ r).Perm l' → (L.flatten ++ r).Perm (L.set k l').flatten
  | [], k, _, _, _, h, _ => by simp at h
  | x :: L, 0, l, l', r, h, hp => by
    have e : x = l := by simpa using h
    subst e
    show ((x ++ L.flatten) ++ r).Perm (l' ++ L.flatten)
    rw [List.append_assoc]
    refine ((List.perm_append_comm (l₁ := L.flatten) (l₂ := r)).append_left x).trans ?_
    rw [← List.append_assoc]
    exact hp.append_right _
  | x :: L, k + 1, l, l', r, h, hp => by
    have h' : L[k]? = some l := by simpa using h
    show ((x ++ L.flatten) ++ r).Perm (x ++ (L.set k l').flatten)
    rw [List.append_assoc]
    exact (perm_set h' hp).append_left x
theorem putAt_perm (l : List Int) (e w : Int) : (l ++ [w]).Perm (putAt l e w) := by
  unfold putAt
  split
  · exact List.perm_append_comm
  · exact .refl _
theorem cutAt_perm {l : List Int} (e : Int) (h : l ≠ []) : (cutAt l e ++ [endOf l e]).Perm l := by
  unfold cutAt endOf
  split
  · cases l with
    | nil => exact absurd rfl h
    | cons a r => exact List.perm_append_comm (l₁ := r) (l₂ := [a])
  · have : l.getLastD 0 = l.getLast h := by
      cases l with
      | nil => exact absurd rfl h
      | cons a r => simp [List.getLastD_eq_getLast?, List.getLast?_eq_some_getLast]
    rw [this, List.dropLast_concat_getLast h]
theorem cutAt_len (l : List Int) (e : Int) : (cutAt l e).length ≤ l.length := by
  unfold cutAt
  split <;> simp
theorem putAt_len (l : List Int) (e w : Int) : (putAt l e w).length = l.length + 1 := by
  unfold putAt
  split <;> simp
theorem getD_of {α : Type} {l : List α} {k : Nat} {x d : α} (h : l[k]? = some x) : l.getD k d = x := by
  rw [List.getD_eq_getElem?_getD, h]
  rfl
theorem out1_len (s : Sit) (m : Mv) : (out1 s m).length = s.held.length := by
  unfold out1
  split <;> simp
theorem src_dev {Y : Yard} {row : List Int} {s : Sit} {m : Mv} (c : Can Y row.length s m) (h : m.1 ≠ -1) : ∃ l, s.held[m.1.toNat]? = some l ∧ l ≠ [] ∧ m.2.1 ∈ (Y.kind m.1.toNat).outs := by
  have h2 := c.2.1
  unfold srcEnds at h2
  rw [if_neg h] at h2
  split at h2
  · cases h2
  · rename_i q
    rw [List.getD_eq_getElem?_getD] at q
    cases e : s.held[m.1.toNat]? with
    | none => rw [e] at q; exact absurd rfl q
    | some l =>
      rw [e] at q
      exact ⟨l, rfl, fun z => q (by subst z; rfl), h2⟩
theorem wagon_dev {row : List Int} {s : Sit} {m : Mv} {l : List Int} (h : m.1 ≠ -1) (e : s.held[m.1.toNat]? = some l) : wagon row s m = endOf l m.2.1 := by
  unfold wagon
  rw [if_neg h, getD_of e]
theorem out1_dev {s : Sit} {m : Mv} {l : List Int} (h : m.1 ≠ -1) (e : s.held[m.1.toNat]? = some l) : out1 s m = s.held.set m.1.toNat (cutAt l m.2.1) := by
  unfold out1
  rw [if_neg h, getD_of e]
/-- taking the wagon out -/
theorem out1_perm {Y : Yard} {row : List Int} {s : Sit} {m : Mv} (w : WF Y row s) (c : Can Y row.length s m) : (s.gone ++ ((out1 s m).flatten ++ [wagon row s m])).Perm (row.take (aft row s m).came) ∧ (aft row s m).came ≤ row.length := by
  by_cases h : m.1 = -1
  · have h2 := c.2.1
    unfold srcEnds at h2
    rw [if_pos h] at h2
    have hc : s.came < row.length := by
      by_cases q : s.came < row.length
      · exact q
      · rw [if_neg q] at h2; cases h2
    have e1 : (aft row s m).came = s.came + 1 := by simp [aft, h]
    have e2 : out1 s m = s.held := by simp [out1, h]
    have e3 : wagon row s m = row[s.came] := by
      simp [wagon, h, List.getElem?_eq_getElem hc]
    rw [e1, e2, e3, ← List.append_assoc]
    refine ⟨?_, hc⟩
    rw [List.take_succ_eq_append_getElem hc]
    exact w.perm.append_right _
  · obtain ⟨l, e, hl, ho⟩ := src_dev c h
    have e1 : (aft row s m).came = s.came := by simp [aft, h]
    rw [e1, wagon_dev h e, out1_dev h e]
    refine ⟨(List.Perm.append_left s.gone ?_).trans w.perm, w.came⟩
    have hs : (s.held.set m.1.toNat (cutAt l m.2.1))[m.1.toNat]? = some (cutAt l m.2.1) := by
      rw [List.getElem?_set_self (List.getElem?_eq_some_iff.mp e).1]
    have := perm_set hs (cutAt_perm m.2.1 hl)
    rw [List.set_set, show s.held.set m.1.toNat l = s.held from by
      have hlt := (List.getElem?_eq_some_iff.mp e)
      obtain ⟨h1, h2⟩ := hlt
      rw [← h2]
      exact List.set_getElem_self h1] at this
    exact this
theorem out1_room {Y : Yard} {row : List Int} {s : Sit} {m : Mv} (w : WF Y row s) : ∀ k l, (out1 s m)[k]? = some l → Y.bound k = 0 ∨ l.length ≤ Y.bound k := by
  intro k l hk
  unfold out1 at hk
  split at hk
  · exact w.room k l hk
  · rw [List.getElem?_set] at hk
    split at hk
    · rename_i q
      subst q
      split at hk
      · rename_i q2
        cases hk
        rw [List.getD_eq_getElem?_getD, List.getElem?_eq_getElem q2]
        rcases w.room _ _ (List.getElem?_eq_getElem q2) with z | z
        · exact .inl z
        · exact .inr (Nat.le_trans (cutAt_len _ _) z)
      · cases hk
    · exact w.room k l hk
/-- the target, told -/
theorem tgt_dev {Y : Yard} {n : Nat} {s : Sit} {m : Mv} (c : Can Y n s m) (h : m.2.2.1 ≠ -1) : m.2.2.2 ∈ (Y.kind m.2.2.1.toNat).ins ∧ (Y.bound m.2.2.1.toNat = 0 ∨ (s.held.getD m.2.2.1.toNat []).length < Y.bound m.2.2.1.toNat) := by
  have h2 := c.2.2
  unfold tgtEnds at h2
  rw [if_neg h] at h2
  split at h2
  · rename_i q
    refine ⟨h2, ?_⟩
    unfold Yard.room at q
    rw [Bool.or_eq_true, decide_eq_true_eq, decide_eq_true_eq] at q
    exact q
  · cases h2
structure LinksOk (Y : Yard) : Prop where
  src : ∀ a b, (a, b) ∈ Y.links → a = -1 ∨ (0 ≤ a ∧ a.toNat < Y.kinds.length)
  tgt : ∀ a b, (a, b) ∈ Y.links → b = -1 ∨ (0 ≤ b ∧ b.toNat < Y.kinds.length)
  ne : ∀ a b, (a, b) ∈ Y.links → a ≠ b
theorem WF.init (Y : Yard) (row : List Int) : WF Y row (init Y.kinds.length) where
  came := Nat.zero_le _
  len := by simp [YM.init]
  perm := by simp [YM.init]
  room := fun k l h => by
    simp [YM.init, List.getElem?_replicate] at h
    rw [h.2]
    exact .inr (Nat.zero_le _)
theorem WF.aft {Y : Yard} {row : List Int} {s : Sit} {m : Mv} (lk : LinksOk Y) (w : WF Y row s) (c : Can Y row.length s m) : WF Y row (aft row s m) := by
  obtain ⟨hp, hc⟩ := out1_perm w c
  by_cases h : m.2.2.1 = -1
  · refine ⟨hc, ?_, ?_, ?_⟩
    · simp only [YM.aft, if_pos h, out1_len, w.len]
    · have e1 : (YM.aft row s m).gone = s.gone ++ [wagon row s m] := by simp [YM.aft, h]
      have e2 : (YM.aft row s m).held = out1 s m := by simp [YM.aft, h]
      rw [e1, e2, List.append_assoc]
      exact (List.Perm.append_left _ List.perm_append_comm).trans hp
    · have e2 : (YM.aft row s m).held = out1 s m := by simp [YM.aft, h]
      rw [e2]
      exact out1_room w
  · have hb : 0 ≤ m.2.2.1 ∧ m.2.2.1.toNat < Y.kinds.length := (lk.tgt _ _ c.1).resolve_left h
    have hlt : m.2.2.1.toNat < (out1 s m).length := by rw [out1_len, w.len]; exact hb.2
    have e1 : (YM.aft row s m).gone = s.gone := by simp [YM.aft, h]
    have e2 : (YM.aft row s m).held = (out1 s m).set m.2.2.1.toNat (putAt ((out1 s m).getD m.2.2.1.toNat []) m.2.2.2 (wagon row s m)) := by simp [YM.aft, h]
    have hne : m.1.toNat ≠ m.2.2.1.toNat ∨ m.1 = -1 := by
      rcases lk.src _ _ c.1 with q | q
      · exact .inr q
      · refine .inl fun z => lk.ne _ _ c.1 ?_
        have := q.1
        have := hb.1
        omega
    have e3 : (out1 s m).getD m.2.2.1.toNat [] = s.held.getD m.2.2.1.toNat [] := by
      unfold out1
      split
      · rfl
      · rename_i z
        rw [List.getD_eq_getElem?_getD, List.getElem?_set_ne (hne.resolve_right z), ← List.getD_eq_getElem?_getD]
    refine ⟨hc, ?_, ?_, ?_⟩
    · rw [e2, List.length_set, out1_len, w.len]
    · rw [e1, e2]
      refine (List.Perm.append_left _ ?_).trans hp
      refine (perm_set (l := (out1 s m).getD m.2.2.1.toNat []) ?_ (putAt_perm _ m.2.2.2 (wagon row s m))).symm
      rw [List.getD_eq_getElem?_getD, List.getElem?_eq_getElem hlt]
      rfl
    · intro k l hk
      rw [e2, List.getElem?_set] at hk
      split at hk
      · rename_i q
        subst q
        cases hk
        rcases (tgt_dev c h).2 with z | z
        · exact .inl z
        · refine .inr ?_
          rw [putAt_len, e3]
          exact z
      · exact out1_room w k l hk
/-! ### how many live situations there are -/
def insAll (w : Int) : List Int → List (List Int)
  | [] => [[w]]
  | x :: r => (w :: x :: r) :: (insAll w r).map fun l => x :: l
def insDev (w : Int) : List (List Int) → List (List (List Int))
  | [] => []
  | l :: L => ((insAll w l).map fun l' => l' :: L) ++ (insDev w L).map fun L' => l :: L'
def dist (nd : Nat) : List Int → List (List (List Int))
  | [] => [List.replicate nd []]
  | w :: ws => (dist nd ws).flatMap (insDev w)
theorem insAll_len (w : Int) : ∀ l : List Int, (insAll w l).length = l.length + 1
  | [] => rfl
  | x :: r => by simp [insAll, insAll_len w r]
theorem insDev_len (w : Int) : ∀ L : List (List Int), (insDev w L).length = L.flatten.length + L.length
  | [] => rfl
  | l :: L => by
    simp only [insDev, List.length_append, List.length_map, insAll_len, insDev_len w L, List.flatten_cons, List.length_cons]
    omega
theorem insAll_mem (w : Int) : ∀ (a b : List Int), (a ++ w :: b) ∈ insAll w (a ++ b)
  | [], [] => by simp [insAll]
  | [], x :: r => by simp [insAll]
  | x :: a, b => by
    have := insAll_mem w a b
    simp only [List.cons_append, insAll]
    exact List.mem_cons_of_mem _ (List.mem_map.mpr ⟨_, this, rfl⟩)
theorem insAll_perm (w : Int) : ∀ (l l' : List Int), l' ∈ insAll w l → l'.Perm (w :: l)
  | [], l', h => by
    simp [insAll] at h
    subst h
    exact .refl _
  | x :: r, l', h => by
    rcases List.mem_cons.mp h with e | h
    · subst e
      exact .refl _
    · obtain ⟨y, hy, rfl⟩ := List.mem_map.mp h
      exact ((insAll_perm w r y hy).cons x).trans (List.Perm.swap w x r)
theorem insDev_perm (w : Int) : ∀ (L L' : List (List Int)), L' ∈ insDev w L → L'.flatten.Perm (w :: L.flatten) ∧ L'.length = L.length
  | [], _, h => by cases h
  | l :: L, L', h => by
    rcases List.mem_append.mp h with h | h
    · obtain ⟨l', hl, rfl⟩ := List.mem_map.mp h
      exact ⟨(insAll_perm w l l' hl).append_right _, rfl⟩
    · obtain ⟨L2, hL, rfl⟩ := List.mem_map.mp h
      obtain ⟨h1, h2⟩ := insDev_perm w L L2 hL
      refine ⟨?_, by simp [h2]⟩
      show (l ++ L2.flatten).Perm (w :: (l ++ L.flatten))
      exact (h1.append_left l).trans List.perm_middle
theorem dist_perm (nd : Nat) : ∀ (ws : List Int) (L : List (List Int)), L ∈ dist nd ws → L.flatten.Perm ws ∧ L.length = nd
  | [], L, h => by
    simp [dist] at h
    subst h
    simp
  | w :: ws, L, h => by
    obtain ⟨L1, h1, h2⟩ := List.mem_flatMap.mp h
    obtain ⟨a, b⟩ := insDev_perm w L1 L h2
    obtain ⟨c, d⟩ := dist_perm nd ws L1 h1
    exact ⟨a.trans (c.cons w), b.trans d⟩
def cnt (nd : Nat) : Nat → Nat
  | 0 => 1
  | m + 1 => cnt nd m * (m + nd)
theorem dist_len (nd : Nat) : ∀ ws : List Int, (dist nd ws).length = cnt nd ws.length
  | [] => rfl
  | w :: ws => by
    have h : ∀ (A : List (List (List Int))), (∀ L ∈ A, L.flatten.length = ws.length ∧ L.length = nd) → (A.flatMap (insDev w)).length = A.length * (ws.length + nd) := by
      intro A
      induction A with
      | nil => intro _; simp
      | cons L A ih =>
        intro hA
        rw [List.flatMap_cons, List.length_append, ih fun L' h => hA L' (List.mem_cons_of_mem _ h), insDev_len]
        obtain ⟨a, b⟩ := hA L List.mem_cons_self
        rw [a, b, List.length_cons, Nat.add_mul]
        omega
    show ((dist nd ws).flatMap (insDev w)).length = cnt nd ws.length * (ws.length + nd)
    rw [h _ fun L hL => ⟨(dist_perm nd ws L hL).1.length_eq, (dist_perm nd ws L hL).2⟩, dist_len nd ws]
/-- a wagon among the devices is taken out -/
theorem take_out {w : Int} : ∀ {L : List (List Int)}, w ∈ L.flatten → ∃ L', L ∈ insDev w L' ∧ L'.length = L.length
  | [], h => by simp at h
  | l :: L, h => by
    rcases List.mem_append.mp (show w ∈ l ++ L.flatten from h) with h | h
    · obtain ⟨a, b, rfl⟩ := List.append_of_mem h
      exact ⟨(a ++ b) :: L, List.mem_append_left _ (List.mem_map.mpr ⟨_, insAll_mem w a b, rfl⟩), rfl⟩
    · obtain ⟨L', h1, h2⟩ := take_out h
      exact ⟨l :: L', List.mem_append_right _ (List.mem_map.mpr ⟨_, h1, rfl⟩), by simp [h2]⟩
theorem dist_mem (nd : Nat) : ∀ (ws : List Int) (L : List (List Int)), L.flatten.Perm ws → L.length = nd → L ∈ dist nd ws
  | [], L, h, hl => by
    have h0 : L.flatten = [] := h.eq_nil
    have : L = List.replicate nd [] := by
      refine List.eq_replicate_iff.mpr ⟨hl, fun l hm => ?_⟩
      exact List.flatten_eq_nil_iff.mp h0 l hm
    subst this
    simp [dist]
  | w :: ws, L, h, hl => by
    have hw : w ∈ L.flatten := h.mem_iff.mpr List.mem_cons_self
    obtain ⟨L', h1, h2⟩ := take_out hw
    have h3 := (insDev_perm w L' L h1).1
    have h4 : L'.flatten.Perm ws := List.Perm.cons_inv (h3.symm.trans h)
    exact List.mem_flatMap.mpr ⟨L', dist_mem nd ws L' h4 (h2.trans hl), h1⟩
/-- all live situations -/
def allSits (nd : Nat) (row : List Int) : List Sit :=
  (List.range (row.length + 1)).flatMap fun c => (List.range (c + 1)).flatMap fun k =>
    if ((row.take c).filter fun w => !(upTo k).contains w).length = c - k then (dist nd ((row.take c).filter fun w => !(upTo k).contains w)).map fun L => ⟨c, L, upTo k⟩ else []
def total (nd n : Nat) : Nat := ((List.range (n + 1)).map fun c => ((List.range (c + 1)).map fun k => cnt nd (c - k)).sum).sum
theorem flatMap_le {α β : Type} (f : α → List β) (g : α → Nat) (l : List α) (h : ∀ a ∈ l, (f a).length ≤ g a) : (l.flatMap f).length ≤ (l.map g).sum := by
  induction l with
  | nil => simp
  | cons a l ih =>
    rw [List.flatMap_cons, List.length_append, List.map_cons, List.sum_cons]
    have := h a List.mem_cons_self
    have := ih fun b hb => h b (List.mem_cons_of_mem _ hb)
    omega
theorem allSits_len (nd : Nat) (row : List Int) : (allSits nd row).length ≤ total nd row.length := by
  unfold allSits total
  refine flatMap_le _ _ _ fun c _ => flatMap_le _ _ _ fun k _ => ?_
  split
  · rename_i h
    rw [List.length_map, dist_len, h]
    exact Nat.le_refl _
  · exact Nat.zero_le _
theorem total_le {nd n : Nat} (h1 : 1 ≤ nd) (h2 : nd ≤ 3) (h3 : n ≤ 5) (h4 : nd + n ≤ 7) : total nd n ≤ 4000 := by
  have : ∀ nd ∈ List.range 4, ∀ n ∈ List.range 6, 1 ≤ nd → nd + n ≤ 7 → total nd n ≤ 4000 := by decide
  exact this nd (List.mem_range.mpr (by omega)) n (List.mem_range.mpr (by omega)) h1 h4
theorem allSits_mem {Y : Yard} {row : List Int} {s : Sit} (hn : row.Nodup) (w : WF Y row s) (hl : s.live) : s ∈ allSits Y.kinds.length row := by
  have hl' : s.gone = upTo s.gone.length := hl
  have hp := w.perm
  have hlen := hp.length_eq
  rw [List.length_append, List.length_take, Nat.min_eq_left w.came] at hlen
  have hnd : (row.take s.came).Nodup := hn.sublist (List.take_sublist _ _)
  have hnd2 : (s.gone ++ s.held.flatten).Nodup := hp.symm.nodup hnd
  have hperm : s.held.flatten.Perm ((row.take s.came).filter fun w => !(upTo s.gone.length).contains w) := by
    rw [← hl']
    have := hp.filter fun w => !s.gone.contains w
    refine List.Perm.trans ?_ this
    rw [List.filter_append]
    have e1 : s.gone.filter (fun w => !s.gone.contains w) = [] := List.filter_eq_nil_iff.mpr fun a ha => by simp [ha]
    have e2 : s.held.flatten.filter (fun w => !s.gone.contains w) = s.held.flatten := List.filter_eq_self.mpr fun a ha => by
      have := (List.nodup_append.mp hnd2).2.2
      have h' : a ∉ s.gone := fun q => this a q a ha rfl
      simp [h']
    rw [e1, e2]
    exact .refl _
  refine List.mem_flatMap.mpr ⟨s.came, List.mem_range.mpr (by have := w.came; omega), List.mem_flatMap.mpr ⟨s.gone.length, List.mem_range.mpr (by omega), ?_⟩⟩
  have hlen2 := hperm.length_eq
  rw [if_pos (by omega)]
  refine List.mem_map.mpr ⟨s.held, dist_mem _ _ _ hperm w.len, ?_⟩
  rw [← hl']
end YM
namespace YM
/-! ### turning round -/
def IsRow (row : List Int) : Prop := row.Perm (upTo row.length)
def lam (row : List Int) (w : Int) : Int := (row.length : Int) - (row.idxOf w : Nat)
def trow (row : List Int) : List Int := (List.range row.length).map fun j => lam row ((row.length : Int) - (j : Nat))
def fl (k : Kd) (l : List Int) : List Int := if k = .q then l.reverse else l
def nm (num : List Nat) (a : Int) : Int := if a = -1 then -1 else ((num.getD a.toNat 0 : Nat) : Int)
def tend (Y : Yard) (dev e0 e : Int) : Int := if dev = -1 then 0 else if Y.kind dev.toNat = .q then e0 else e
def tmv (Y : Yard) (num : List Nat) (m : Mv) : Mv := (nm num m.2.2.1, tend Y m.2.2.1 0 m.2.2.2, nm num m.1, tend Y m.1 1 m.2.1)
def revD (Y : Yard) (row : List Int) (s : Sit) (k : Nat) : List Int := fl (Y.kind k) ((s.held.getD k []).map (lam row))
def revS (Y : Yard) (row : List Int) (ord : List Nat) (s : Sit) : Sit :=
  ⟨row.length - s.gone.length, ord.map (revD Y row s), upTo (row.length - s.came)⟩
structure Trn (Y Y' : Yard) (ord num : List Nat) : Prop where
  len : ord.length = Y.kinds.length
  kinds : Y'.kinds = ord.map fun k => (Y.kind k).turn
  bounds : Y'.bounds = ord.map Y.bound
  ordOk : ∀ j, j < Y.kinds.length → ord.getD j 0 < Y.kinds.length ∧ num.getD (ord.getD j 0) 0 = j
  numOk : ∀ k, k < Y.kinds.length → num.getD k 0 < Y.kinds.length ∧ ord.getD (num.getD k 0) 0 = k
  links : ∀ a b, (a, b) ∈ Y.links → (nm num b, nm num a) ∈ Y'.links
/-! rows -/
theorem nodup_map {α β : Type} {f : α → β} {l : List α} (h : l.Nodup) (inj : ∀ a ∈ l, ∀ b ∈ l, f a = f b → a = b) : (l.map f).Nodup := by
  unfold List.Nodup
  rw [List.pairwise_map]
  refine List.Pairwise.imp_of_mem (R := fun a b => a ≠ b) (fun {a b} ha hb hn e => hn (inj a ha b hb e)) h
theorem perm_of_sub {α : Type} [DecidableEq α] : ∀ {l r : List α}, l.Nodup → (∀ x ∈ l, x ∈ r) → r.length ≤ l.length → l.Perm r
  | [], r, _, _, hl => by
    have : r = [] := List.eq_nil_of_length_eq_zero (by simpa using hl)
    subst this
    exact .refl _
  | x :: l, r, h, hs, hl => by
    obtain ⟨h1, h2⟩ := List.nodup_cons.mp h
    have hx : x ∈ r := hs x List.mem_cons_self
    have hp : 0 < r.length := List.length_pos_of_mem hx
    have := perm_of_sub (l := l) (r := r.erase x) h2 (fun y hy => (List.mem_erase_of_ne (fun (e : y = x) => h1 (e ▸ hy))).mpr (hs y (List.mem_cons_of_mem _ hy))) (by
      rw [List.length_erase_of_mem hx]
      simp only [List.length_cons] at hl
      omega)
    exact (this.cons x).trans (List.perm_cons_erase hx).symm
theorem upTo_mem {n : Nat} {w : Int} : w ∈ upTo n ↔ 1 ≤ w ∧ w ≤ n := by
  unfold upTo
  rw [List.mem_map]
  constructor
  · rintro ⟨k, hk, rfl⟩
    have := List.mem_range.mp hk
    omega
  · rintro ⟨h1, h2⟩
    exact ⟨(w - 1).toNat, List.mem_range.mpr (by omega), by omega⟩
theorem upTo_nodup (n : Nat) : (upTo n).Nodup := by
  unfold upTo
  refine nodup_map List.nodup_range fun a _ b _ h => ?_
  have : ((a : Nat) : Int) + 1 = (b : Int) + 1 := h
  omega
theorem IsRow.nodup {row : List Int} (h : IsRow row) : row.Nodup := h.symm.nodup (upTo_nodup _)
theorem IsRow.mem {row : List Int} (h : IsRow row) {w : Int} : w ∈ row ↔ 1 ≤ w ∧ w ≤ row.length := h.mem_iff.trans upTo_mem
theorem idx_at {row : List Int} (h : row.Nodup) {p : Nat} (hp : p < row.length) : row.idxOf row[p] = p := by
  have := h.idxOf_getElem p hp
  exact this
theorem lam_at {row : List Int} (h : IsRow row) {p : Nat} (hp : p < row.length) : lam row row[p] = (row.length : Int) - p := by
  unfold lam
  rw [idx_at h.nodup hp]
theorem trow_len (row : List Int) : (trow row).length = row.length := by simp [trow]
theorem trow_at (row : List Int) {j : Nat} (hj : j < row.length) : (trow row)[j]? = some (lam row ((row.length : Int) - j)) := by
  simp [trow, hj]
theorem at_of_mem {row : List Int} (h : IsRow row) {w : Int} (h1 : 1 ≤ w) (h2 : w ≤ row.length) : ∃ p, ∃ hp : p < row.length, row[p] = w :=
  List.getElem_of_mem (h.mem.mpr ⟨h1, h2⟩)
theorem lam_range {row : List Int} (h : IsRow row) {w : Int} (h1 : 1 ≤ w) (h2 : w ≤ row.length) : 1 ≤ lam row w ∧ lam row w ≤ row.length := by
  obtain ⟨p, hp, rfl⟩ := at_of_mem h h1 h2
  rw [lam_at h hp]
  omega
theorem lam_inj {row : List Int} (h : IsRow row) {w v : Int} (h1 : 1 ≤ w) (h2 : w ≤ row.length) (h3 : 1 ≤ v) (h4 : v ≤ row.length) (e : lam row w = lam row v) : w = v := by
  obtain ⟨p, hp, rfl⟩ := at_of_mem h h1 h2
  obtain ⟨q, hq, rfl⟩ := at_of_mem h h3 h4
  rw [lam_at h hp, lam_at h hq] at e
  have : p = q := by omega
  subst this
  rfl
theorem trow_nodup {row : List Int} (h : IsRow row) : (trow row).Nodup := by
  unfold trow
  refine nodup_map List.nodup_range fun a ha b hb e => ?_
  have h1 := List.mem_range.mp ha
  have h2 := List.mem_range.mp hb
  have := lam_inj h (by omega) (by omega) (by omega) (by omega) e
  omega
theorem trow_row {row : List Int} (h : IsRow row) : IsRow (trow row) := by
  unfold IsRow
  rw [trow_len]
  have hs : ∀ x ∈ trow row, x ∈ upTo row.length := fun x hx => by
    unfold trow at hx
    obtain ⟨j, hj, rfl⟩ := List.mem_map.mp hx
    have := List.mem_range.mp hj
    exact upTo_mem.mpr (lam_range h (by omega) (by omega))
  exact perm_of_sub (trow_nodup h) hs (by rw [trow_len, upTo_len]; exact Nat.le_refl _)
theorem trow_trow {row : List Int} (h : IsRow row) : trow (trow row) = row := by
  refine List.ext_getElem? fun j => ?_
  by_cases hj : j < row.length
  · rw [trow_at _ (by rw [trow_len]; exact hj), trow_len, List.getElem?_eq_getElem hj]
    -- the wagon n - j of the turned row stands at n - row[j]
    have hw := h.mem.mp (List.getElem_mem hj)
    obtain ⟨p, hp⟩ : ∃ p : Nat, (p : Int) = (row.length : Int) - row[j] := ⟨((row.length : Int) - row[j]).toNat, by omega⟩
    have hpl : p < row.length := by omega
    have e1 : (trow row)[p]? = some ((row.length : Int) - j) := by
      rw [trow_at row hpl, hp, show (row.length : Int) - ((row.length : Int) - row[j]) = row[j] by omega, lam_at h hj]
    obtain ⟨q1, q2⟩ := List.getElem?_eq_some_iff.mp e1
    have e2 := lam_at (trow_row h) q1
    rw [q2, trow_len] at e2
    rw [e2, hp]
    congr 1
    omega
  · rw [List.getElem?_eq_none (by rw [trow_len, trow_len]; omega), List.getElem?_eq_none (by omega)]
/-! devices -/
theorem fl_len (k : Kd) (l : List Int) : (fl k l).length = l.length := by
  unfold fl
  split <;> simp
theorem outs_ins {k : Kd} {e : Int} (h : e ∈ k.outs) : (if k = .q then 1 else e) ∈ k.turn.ins := by
  cases k <;> simp [Kd.outs, Kd.turn, Kd.ins] at h ⊢ <;> exact h
theorem ins_outs {k : Kd} {e : Int} (h : e ∈ k.ins) : (if k = .q then 0 else e) ∈ k.turn.outs := by
  cases k <;> simp [Kd.outs, Kd.turn, Kd.ins] at h ⊢ <;> exact h
theorem ends01 {k : Kd} {e : Int} (h : e ∈ k.outs ∨ e ∈ k.ins) : e = 0 ∨ e = 1 := by
  cases k <;> simp [Kd.outs, Kd.ins] at h <;> omega
theorem end_put {k : Kd} {e w : Int} {l : List Int} {f : Int → Int} (h : e ∈ k.ins) : endOf (fl k ((putAt l e w).map f)) (if k = .q then 0 else e) = f w := by
  by_cases hq : k = .q
  · subst hq
    simp [Kd.ins] at h
    subst h
    simp [fl, endOf, putAt]
  · rw [if_neg hq]
    unfold fl
    rw [if_neg hq]
    rcases ends01 (.inr h) with rfl | rfl
    · simp [endOf, putAt]
    · simp [endOf, putAt]
theorem cut_put {k : Kd} {e w : Int} {l : List Int} {f : Int → Int} (h : e ∈ k.ins) : cutAt (fl k ((putAt l e w).map f)) (if k = .q then 0 else e) = fl k (l.map f) := by
  by_cases hq : k = .q
  · subst hq
    simp [Kd.ins] at h
    subst h
    simp [fl, cutAt, putAt]
  · rw [if_neg hq]
    unfold fl
    rw [if_neg hq, if_neg hq]
    rcases ends01 (.inr h) with rfl | rfl
    · simp [cutAt, putAt]
    · simp [cutAt, putAt]
theorem put_cut {k : Kd} {e : Int} {l : List Int} {f : Int → Int} (h : e ∈ k.outs) (hl : l ≠ []) : putAt (fl k ((cutAt l e).map f)) (if k = .q then 1 else e) (f (endOf l e)) = fl k (l.map f) := by
  have hcons : ∃ a r, l = a :: r := by
    cases l with
    | nil => exact absurd rfl hl
    | cons a r => exact ⟨a, r, rfl⟩
  have hsnoc : ∃ r a, l = r ++ [a] := ⟨l.dropLast, l.getLast hl, (List.dropLast_concat_getLast hl).symm⟩
  by_cases hq : k = .q
  · subst hq
    simp [Kd.outs] at h
    subst h
    obtain ⟨a, r, rfl⟩ := hcons
    simp [fl, cutAt, putAt, endOf]
  · rw [if_neg hq]
    unfold fl
    rw [if_neg hq, if_neg hq]
    rcases ends01 (.inl h) with rfl | rfl
    · obtain ⟨a, r, rfl⟩ := hcons
      simp [cutAt, putAt, endOf]
    · obtain ⟨r, a, rfl⟩ := hsnoc
      simp [cutAt, putAt, endOf]
end YM
namespace YM
theorem getD_set {α : Type} {l : List α} {k j : Nat} {x d : α} (hk : k < l.length) : (l.set k x).getD j d = if j = k then x else l.getD j d := by
  rw [List.getD_eq_getElem?_getD, List.getElem?_set]
  by_cases h : k = j
  · subst h
    rw [if_pos rfl, if_pos hk, if_pos rfl]
    rfl
  · rw [if_neg h, if_neg (fun e => h e.symm), ← List.getD_eq_getElem?_getD]
theorem getD_map {α β : Type} {f : α → β} {l : List α} {j : Nat} {d : β} {c : α} (hj : j < l.length) : (l.map f).getD j d = f (l.getD j c) := by
  rw [List.getD_eq_getElem?_getD, List.getElem?_map, List.getElem?_eq_getElem hj, List.getD_eq_getElem?_getD, List.getElem?_eq_getElem hj]
  rfl
theorem ext_getD {α : Type} {l r : List α} (d : α) (hl : l.length = r.length) (h : ∀ j, j < l.length → l.getD j d = r.getD j d) : l = r := by
  refine List.ext_getElem hl fun j h1 h2 => ?_
  have := h j h1
  rw [List.getD_eq_getElem?_getD, List.getD_eq_getElem?_getD, List.getElem?_eq_getElem h1, List.getElem?_eq_getElem h2] at this
  exact this
theorem aft_len (row : List Int) (s : Sit) (m : Mv) : (aft row s m).held.length = s.held.length := by
  unfold aft
  dsimp only
  split
  · exact out1_len s m
  · rw [List.length_set, out1_len]
section
variable {Y Y' : Yard} {ord num : List Nat} {row : List Int} {s : Sit} {m : Mv}
theorem Trn.kind (T : Trn Y Y' ord num) {k : Nat} (hk : k < Y.kinds.length) : Y'.kind (num.getD k 0) = (Y.kind k).turn := by
  have h := T.numOk k hk
  unfold Yard.kind
  rw [T.kinds, getD_map (c := 0) (by rw [T.len]; exact h.1), h.2]
  rfl
theorem Trn.bound (T : Trn Y Y' ord num) {k : Nat} (hk : k < Y.kinds.length) : Y'.bound (num.getD k 0) = Y.bound k := by
  have h := T.numOk k hk
  show Y'.bounds.getD (num.getD k 0) 0 = Y.bound k
  rw [T.bounds, getD_map (c := 0) (by rw [T.len]; exact h.1), h.2]
theorem Trn.held (T : Trn Y Y' ord num) {k : Nat} (hk : k < Y.kinds.length) : (revS Y row ord s).held.getD (num.getD k 0) [] = revD Y row s k := by
  have h := T.numOk k hk
  show (ord.map (revD Y row s)).getD (num.getD k 0) [] = _
  rw [getD_map (c := 0) (by rw [T.len]; exact h.1), h.2]
theorem Trn.inj (T : Trn Y Y' ord num) {a b : Nat} (ha : a < Y.kinds.length) (hb : b < Y.kinds.length) (e : num.getD a 0 = num.getD b 0) : a = b := by
  rw [← (T.numOk a ha).2, ← (T.numOk b hb).2, e]
theorem nm_dev {a : Int} (h : a ≠ -1) : nm num a = ((num.getD a.toNat 0 : Nat) : Int) := by unfold nm; rw [if_neg h]
theorem nm_out : nm num (-1) = -1 := by unfold nm; rw [if_pos rfl]
theorem nm_ne {a : Int} (h : a ≠ -1) : nm num a ≠ -1 := by
  rw [nm_dev h]
  omega
theorem nm_nat {a : Int} (h : a ≠ -1) : (nm num a).toNat = num.getD a.toNat 0 := by
  rw [nm_dev h]
  exact Int.toNat_natCast _
theorem tend_dev {d e0 e : Int} (h : d ≠ -1) : tend Y d e0 e = if Y.kind d.toNat = .q then e0 else e := by unfold tend; rw [if_neg h]
theorem tend_out {e0 e : Int} : tend Y (-1) e0 e = 0 := by unfold tend; rw [if_pos rfl]
theorem emp_false {l : List Int} (h : l ≠ []) : l.isEmpty = false := by
  cases l with
  | nil => exact absurd rfl h
  | cons a r => rfl
/-- a step, turned round -/
theorem rev_step (T : Trn Y Y' ord num) (lk : LinksOk Y) (hr : IsRow row) (w : WF Y row s) (hs : s.live) (c : Can Y row.length s m) (ht : (aft row s m).live) :
    Mk Y' (trow row) (revS Y row ord (aft row s m)) (tmv Y num m) (revS Y row ord s) := by
  have wt := w.aft lk c
  obtain ⟨src, out, tgt, en⟩ := m
  have hgt : (aft row s (src, out, tgt, en)).gone.length ≤ row.length := by
    have h1 := wt.perm.length_eq
    rw [List.length_append, List.length_take] at h1
    have := wt.came
    omega
  have hlen : s.held.length = Y.kinds.length := w.len
  -- the source and the target, told
  have srcD : src ≠ -1 → src.toNat < Y.kinds.length ∧ 0 ≤ src := fun h => by
    have := (lk.src _ _ c.1).resolve_left h
    exact ⟨this.2, this.1⟩
  have tgtD : tgt ≠ -1 → tgt.toNat < Y.kinds.length ∧ 0 ≤ tgt := fun h => by
    have := (lk.tgt _ _ c.1).resolve_left h
    exact ⟨this.2, this.1⟩
  have hne : src ≠ tgt := lk.ne _ _ c.1
  have hneN : src ≠ -1 → tgt ≠ -1 → src.toNat ≠ tgt.toNat := fun h1 h2 e => hne (by have := (srcD h1).2; have := (tgtD h2).2; omega)
  -- what t holds
  have out1T : tgt ≠ -1 → (out1 s (src, out, tgt, en)).getD tgt.toNat [] = s.held.getD tgt.toNat [] := fun h => by
    unfold out1
    by_cases hsrc : src = -1
    · rw [if_pos hsrc]
    · rw [if_neg hsrc]
      show (s.held.set src.toNat _).getD tgt.toNat [] = _
      rw [getD_set (by rw [hlen]; exact (srcD hsrc).1), if_neg fun e => hneN hsrc h e.symm]
  have heldT : tgt ≠ -1 → (aft row s (src, out, tgt, en)).held.getD tgt.toNat [] = putAt (s.held.getD tgt.toNat []) en (wagon row s (src, out, tgt, en)) := fun h => by
    show (if tgt = -1 then _ else (out1 s (src, out, tgt, en)).set tgt.toNat _).getD tgt.toNat [] = _
    rw [if_neg h, getD_set (by rw [out1_len, hlen]; exact (tgtD h).1), if_pos rfl, out1T h]
  have heldS : src ≠ -1 → (aft row s (src, out, tgt, en)).held.getD src.toNat [] = cutAt (s.held.getD src.toNat []) out := fun h => by
    have e1 : (out1 s (src, out, tgt, en)).getD src.toNat [] = cutAt (s.held.getD src.toNat []) out := by
      unfold out1
      rw [if_neg h]
      show (s.held.set src.toNat _).getD src.toNat [] = _
      rw [getD_set (by rw [hlen]; exact (srcD h).1), if_pos rfl]
    show (if tgt = -1 then out1 s (src, out, tgt, en) else (out1 s (src, out, tgt, en)).set tgt.toNat _).getD src.toNat [] = _
    by_cases h2 : tgt = -1
    · rw [if_pos h2, e1]
    · rw [if_neg h2, getD_set (by rw [out1_len, hlen]; exact (tgtD h2).1), if_neg (hneN h h2), e1]
  have heldO : ∀ k, (src ≠ -1 → k ≠ src.toNat) → (tgt ≠ -1 → k ≠ tgt.toNat) → (aft row s (src, out, tgt, en)).held.getD k [] = s.held.getD k [] := fun k h1 h2 => by
    have e1 : (out1 s (src, out, tgt, en)).getD k [] = s.held.getD k [] := by
      unfold out1
      by_cases h : src = -1
      · rw [if_pos h]
      · rw [if_neg h]
        show (s.held.set src.toNat _).getD k [] = _
        rw [getD_set (by rw [hlen]; exact (srcD h).1), if_neg (h1 h)]
    show (if tgt = -1 then out1 s (src, out, tgt, en) else (out1 s (src, out, tgt, en)).set tgt.toNat _).getD k [] = _
    by_cases h : tgt = -1
    · rw [if_pos h, e1]
    · rw [if_neg h, getD_set (by rw [out1_len, hlen]; exact (tgtD h).1), if_neg (h2 h), e1]
  have goneT : tgt = -1 → (aft row s (src, out, tgt, en)).gone = s.gone ++ [wagon row s (src, out, tgt, en)] := fun h => by
    show (if tgt = -1 then _ else _) = _
    rw [if_pos h]
  have goneD : tgt ≠ -1 → (aft row s (src, out, tgt, en)).gone = s.gone := fun h => by
    show (if tgt = -1 then _ else _) = _
    rw [if_neg h]
  have wagT : tgt = -1 → wagon row s (src, out, tgt, en) = (s.gone.length : Int) + 1 := fun h => by
    have h1 : (aft row s (src, out, tgt, en)).gone = upTo (aft row s (src, out, tgt, en)).gone.length := ht
    have h0 : s.gone = upTo s.gone.length := hs
    rw [goneT h, List.length_append, List.length_singleton, upTo_succ, ← h0] at h1
    exact List.singleton_inj.mp (List.append_cancel_left h1)
  have wagS : src = -1 → ∃ hc : s.came < row.length, wagon row s (src, out, tgt, en) = row[s.came] := fun h => by
    have h2 := c.2.1
    unfold srcEnds at h2
    rw [if_pos h] at h2
    by_cases q : s.came < row.length
    · refine ⟨q, ?_⟩
      unfold wagon
      rw [if_pos h]
      exact getD_of (List.getElem?_eq_getElem q)
    · rw [if_neg q] at h2
      cases h2
  have wagD : src ≠ -1 → wagon row s (src, out, tgt, en) = endOf (s.held.getD src.toNat []) out := fun h => by
    unfold wagon
    rw [if_neg h]
  have srcN : src ≠ -1 → s.held.getD src.toNat [] ≠ [] ∧ out ∈ (Y.kind src.toNat).outs := fun h => by
    obtain ⟨l, e, hl, ho⟩ := src_dev c h
    rw [getD_of e]
    exact ⟨hl, ho⟩
  have tgtN : tgt ≠ -1 → en ∈ (Y.kind tgt.toNat).ins := fun h => (tgt_dev c h).1
  -- the turned wagon
  have wag' : wagon (trow row) (revS Y row ord (aft row s (src, out, tgt, en))) (tmv Y num (src, out, tgt, en)) = lam row (wagon row s (src, out, tgt, en)) := by
    show (if nm num tgt = -1 then (trow row).getD (row.length - (aft row s (src, out, tgt, en)).gone.length) 0 else endOf ((revS Y row ord (aft row s (src, out, tgt, en))).held.getD (nm num tgt).toNat []) (tend Y tgt 0 en)) = _
    by_cases h : tgt = -1
    · have e1 : nm num tgt = -1 := by rw [h]; exact nm_out
      rw [if_pos e1]
      have e2 : (aft row s (src, out, tgt, en)).gone.length = s.gone.length + 1 := by
        rw [goneT h, List.length_append, List.length_singleton]
      rw [e2] at hgt ⊢
      rw [getD_of (trow_at row (by omega)), wagT h]
      congr 1
      omega
    · rw [if_neg (nm_ne h), nm_nat h, T.held (tgtD h).1, tend_dev h]
      unfold revD
      rw [heldT h]
      exact end_put (tgtN h)
  refine ⟨⟨T.links _ _ c.1, ?_, ?_⟩, ?_⟩
  · -- the source's ends
    show tend Y tgt 0 en ∈ srcEnds Y' (trow row).length (revS Y row ord (aft row s (src, out, tgt, en))) (nm num tgt)
    unfold srcEnds
    by_cases h : tgt = -1
    · have e1 : nm num tgt = -1 := by rw [h]; exact nm_out
      have e2 : (aft row s (src, out, tgt, en)).gone.length = s.gone.length + 1 := by
        rw [goneT h, List.length_append, List.length_singleton]
      have hlt : (revS Y row ord (aft row s (src, out, tgt, en))).came < (trow row).length := by
        show row.length - (aft row s (src, out, tgt, en)).gone.length < _
        rw [trow_len]
        omega
      rw [if_pos e1, if_pos hlt, h, tend_out]
      exact List.mem_singleton.mpr rfl
    · rw [if_neg (nm_ne h), nm_nat h, T.held (tgtD h).1, T.kind (tgtD h).1, tend_dev h]
      have e3 : (revD Y row (aft row s (src, out, tgt, en)) tgt.toNat).isEmpty = false := by
        refine emp_false fun e => ?_
        have := congrArg List.length e
        unfold revD at this
        rw [fl_len, List.length_map, heldT h, putAt_len] at this
        simp at this
      rw [e3]
      exact ins_outs (tgtN h)
  · -- the target's ends
    show tend Y src 1 out ∈ tgtEnds Y' (revS Y row ord (aft row s (src, out, tgt, en))) (nm num src)
    unfold tgtEnds
    by_cases h : src = -1
    · have e1 : nm num src = -1 := by rw [h]; exact nm_out
      rw [if_pos e1, h, tend_out]
      exact List.mem_singleton.mpr rfl
    · rw [if_neg (nm_ne h), nm_nat h, T.held (srcD h).1, T.kind (srcD h).1, tend_dev h]
      have e3 : Y'.room (num.getD src.toNat 0) (revD Y row (aft row s (src, out, tgt, en)) src.toNat).length = true := by
        unfold Yard.room
        rw [T.bound (srcD h).1, Bool.or_eq_true, decide_eq_true_eq, decide_eq_true_eq]
        have hget : s.held[src.toNat]? = some (s.held.getD src.toNat []) := by
          have : src.toNat < s.held.length := by rw [hlen]; exact (srcD h).1
          rw [List.getElem?_eq_getElem this, getD_of (List.getElem?_eq_getElem this)]
        rcases w.room _ _ hget with z | z
        · exact .inl z
        · refine .inr ?_
          unfold revD
          rw [fl_len, List.length_map, heldS h]
          have hp := (cutAt_perm out (srcN h).1).length_eq
          rw [List.length_append, List.length_singleton] at hp
          omega
      rw [if_pos e3]
      exact outs_ins (srcN h).2
  · -- the situation
    show revS Y row ord s = _
    have hg0 : s.gone = upTo s.gone.length := hs
    have fcame : (aft (trow row) (revS Y row ord (aft row s (src, out, tgt, en))) (tmv Y num (src, out, tgt, en))).came = row.length - s.gone.length := by
      show (if nm num tgt = -1 then row.length - (aft row s (src, out, tgt, en)).gone.length + 1 else row.length - (aft row s (src, out, tgt, en)).gone.length) = _
      by_cases h : tgt = -1
      · have e1 : nm num tgt = -1 := by rw [h]; exact nm_out
        rw [if_pos e1]
        rw [goneT h, List.length_append, List.length_singleton] at hgt ⊢
        omega
      · rw [if_neg (nm_ne h), goneD h]
    have fgone : (aft (trow row) (revS Y row ord (aft row s (src, out, tgt, en))) (tmv Y num (src, out, tgt, en))).gone = upTo (row.length - s.came) := by
      show (if nm num src = -1 then upTo (row.length - (aft row s (src, out, tgt, en)).came) ++ [wagon (trow row) _ _] else upTo (row.length - (aft row s (src, out, tgt, en)).came)) = _
      by_cases h : src = -1
      · have e1 : nm num src = -1 := by rw [h]; exact nm_out
        rw [if_pos e1]
        obtain ⟨hc, ew⟩ := wagS h
        have e2 : (aft row s (src, out, tgt, en)).came = s.came + 1 := by
          show (if src = -1 then _ else _) = _
          rw [if_pos h]
        have e3 := wag'
        rw [ew, lam_at hr hc] at e3
        rw [e3, e2, show row.length - s.came = (row.length - (s.came + 1)) + 1 by omega, upTo_succ]
        congr 2
        omega
      · have e2 : (aft row s (src, out, tgt, en)).came = s.came := by
          show (if src = -1 then _ else _) = _
          rw [if_neg h]
        rw [if_neg (nm_ne h), e2]
    have olen : (out1 (revS Y row ord (aft row s (src, out, tgt, en))) (tmv Y num (src, out, tgt, en))).length = Y.kinds.length := by
      rw [out1_len]
      show (ord.map _).length = _
      rw [List.length_map, T.len]
    have rlen : (revS Y row ord (aft row s (src, out, tgt, en))).held.length = Y.kinds.length := by
      show (ord.map _).length = _
      rw [List.length_map, T.len]
    have fheld : (aft (trow row) (revS Y row ord (aft row s (src, out, tgt, en))) (tmv Y num (src, out, tgt, en))).held = ord.map (revD Y row s) := by
      refine ext_getD [] ?_ fun j hj => ?_
      · rw [aft_len, rlen, List.length_map, T.len]
      · have hj' : j < Y.kinds.length := by
          rw [aft_len, rlen] at hj
          exact hj
        rw [getD_map (c := 0) (by rw [T.len]; exact hj')]
        obtain ⟨hK, hnK⟩ := T.ordOk j hj'
        -- K: the device of the first yard
        have hjK : ∀ a, a < Y.kinds.length → (j = num.getD a 0 ↔ ord.getD j 0 = a) := fun a ha => by
          constructor
          · intro e
            rw [e, (T.numOk a ha).2]
          · intro e
            rw [← e, hnK]
        have base : (revS Y row ord (aft row s (src, out, tgt, en))).held.getD j [] = revD Y row (aft row s (src, out, tgt, en)) (ord.getD j 0) := by
          show (ord.map _).getD j [] = _
          rw [getD_map (c := 0) (by rw [T.len]; exact hj')]
        have o1 : ∀ i, (i ≠ num.getD tgt.toNat 0 ∨ tgt = -1) → (out1 (revS Y row ord (aft row s (src, out, tgt, en))) (tmv Y num (src, out, tgt, en))).getD i [] = (revS Y row ord (aft row s (src, out, tgt, en))).held.getD i [] := fun i hi => by
          show (if nm num tgt = -1 then _ else List.set _ (nm num tgt).toNat _).getD i [] = _
          by_cases h : tgt = -1
          · have e1 : nm num tgt = -1 := by rw [h]; exact nm_out
            rw [if_pos e1]
          · rw [if_neg (nm_ne h), nm_nat h, getD_set (by rw [rlen]; exact (T.numOk _ (tgtD h).1).1), if_neg (hi.resolve_right h)]
        show (if nm num src = -1 then (out1 (revS Y row ord (aft row s (src, out, tgt, en))) (tmv Y num (src, out, tgt, en))) else ((out1 (revS Y row ord (aft row s (src, out, tgt, en))) (tmv Y num (src, out, tgt, en)))).set (nm num src).toNat
          (putAt ((out1 (revS Y row ord (aft row s (src, out, tgt, en))) (tmv Y num (src, out, tgt, en))).getD (nm num src).toNat []) (tend Y src 1 out) (wagon (trow row) (revS Y row ord (aft row s (src, out, tgt, en))) (tmv Y num (src, out, tgt, en))))).getD j [] = revD Y row s (ord.getD j 0)
        by_cases hKs : src ≠ -1 ∧ ord.getD j 0 = src.toNat
        · obtain ⟨h, hKs⟩ := hKs
          have hjs := (hjK _ (srcD h).1).mpr hKs
          rw [if_neg (nm_ne h), nm_nat h, getD_set (by rw [olen]; exact (T.numOk _ (srcD h).1).1), if_pos hjs, o1 _ (by
            by_cases h2 : tgt = -1
            · exact .inr h2
            · exact .inl fun e => hneN h h2 (T.inj (srcD h).1 (tgtD h2).1 e)), T.held (srcD h).1, wag', wagD h, hKs, tend_dev h]
          unfold revD
          rw [heldS h]
          exact put_cut (srcN h).2 (srcN h).1
        · have e0 : ∀ (L : List (List Int)) (x : List Int), L.length = Y.kinds.length → (if nm num src = -1 then L else L.set (nm num src).toNat x).getD j [] = L.getD j [] := fun L x hL => by
            by_cases h : src = -1
            · have e1 : nm num src = -1 := by rw [h]; exact nm_out
              rw [if_pos e1]
            · rw [if_neg (nm_ne h), nm_nat h, getD_set (by rw [hL]; exact (T.numOk _ (srcD h).1).1), if_neg fun e => hKs ⟨h, (hjK _ (srcD h).1).mp e⟩]
          rw [e0 _ _ olen]
          by_cases hKt : tgt ≠ -1 ∧ ord.getD j 0 = tgt.toNat
          · obtain ⟨h, hKt⟩ := hKt
            have hjt := (hjK _ (tgtD h).1).mpr hKt
            show (if nm num tgt = -1 then _ else List.set _ (nm num tgt).toNat (cutAt ((revS Y row ord (aft row s (src, out, tgt, en))).held.getD (nm num tgt).toNat []) (tend Y tgt 0 en))).getD j [] = _
            rw [if_neg (nm_ne h), nm_nat h, getD_set (by rw [rlen]; exact (T.numOk _ (tgtD h).1).1), if_pos hjt, T.held (tgtD h).1, hKt, tend_dev h]
            unfold revD
            rw [heldT h]
            exact cut_put (tgtN h)
          · rw [o1 j (by
              by_cases h2 : tgt = -1
              · exact .inr h2
              · exact .inl fun e => hKt ⟨h2, (hjK _ (tgtD h2).1).mp e⟩), base]
            unfold revD
            rw [heldO _ (fun h1 e => hKs ⟨h1, e⟩) fun h1 e => hKt ⟨h1, e⟩]
    have ext : ∀ a b : Sit, a.came = b.came → a.held = b.held → a.gone = b.gone → a = b := fun a b h1 h2 h3 => by
      cases a
      cases b
      cases h1
      cases h2
      cases h3
      rfl
    exact ext _ _ fcame.symm fheld.symm fgone.symm
end
end YM
namespace YM
/-! ### the search of a yard, a look at a time -/
section
variable {Y : Yard} {row : List Int} {s0 : Sit} {met : List Sit} {org : Org Mv} {i : Nat} {s : Sit} {done : List Mv} {m : Mv}
structure Bst (Y : Yard) (row : List Int) (s0 : Sit) (met : List Sit) (org : Org Mv) (i : Nat) : Prop where
  bi : BI (Stp Y row) s0 met org i
  nd : met.Nodup
  wf : ∀ s ∈ met, WF Y row s
  lv : ∀ s ∈ met, s.live
  cl : Closed (Stp Y row) met org i
def NoGoal (row : List Int) (met : List Sit) : Prop := ∀ s ∈ met, s.gone.length ≠ row.length
structure LookSt (Y : Yard) (row : List Int) (s0 : Sit) (met : List Sit) (org : Org Mv) (i : Nat) (s : Sit) (done : List Mv) : Prop where
  b : Bst Y row s0 met org i
  at_ : met[i]? = some s
  ng : NoGoal row met
  seen : ∀ m ∈ done, (aft row s m).live → ∃ k : Nat, met[k]? = some (aft row s m) ∧ (k = 0 ∨ ∃ j' m', org[k]? = some (some (j', m')) ∧ j' ≤ i)
/-- what the search came to -/
def Found (row : List Int) (met : List Sit) (org : Org Mv) (i : Nat) : Prop := ∃ met0 g m, met = met0 ++ [g] ∧ g.gone.length = row.length ∧ NoGoal row met0 ∧ org[met0.length]? = some (some (i, m))
theorem Bst.start (h : WF Y row s0) (hl : s0.live) : Bst Y row s0 [s0] [none] 0 where
  bi := BI.start
  nd := by simp
  wf := fun s hs => by rw [List.mem_singleton.mp hs]; exact h
  lv := fun s hs => by rw [List.mem_singleton.mp hs]; exact hl
  cl := fun j pj m p hj => absurd hj (Nat.not_lt_zero _)
theorem LookSt.start (b : Bst Y row s0 met org i) (h : met[i]? = some s) (ng : NoGoal row met) : LookSt Y row s0 met org i s [] := ⟨b, h, ng, fun m hm => nomatch hm⟩
theorem LookSt.known (h : LookSt Y row s0 met org i s done) (hf : aft row s m ∈ met) : LookSt Y row s0 met org i s (done ++ [m]) where
  b := h.b
  at_ := h.at_
  ng := h.ng
  seen := fun m' hm hl => by
    rcases List.mem_append.mp hm with q | q
    · exact h.seen m' q hl
    · rw [List.mem_singleton.mp q]
      obtain ⟨k, hk, e⟩ := List.getElem_of_mem hf
      have e' : met[k]? = some (aft row s m) := by rw [List.getElem?_eq_getElem hk, e]
      refine ⟨k, e', ?_⟩
      by_cases h0 : k = 0
      · exact .inl h0
      · obtain ⟨j, m2, pj, h1, _, h3, _, _⟩ := h.b.bi.par k _ h0 e'
        exact .inr ⟨j, m2, h1, h3⟩
theorem LookSt.dead (h : LookSt Y row s0 met org i s done) (hf : ¬ (aft row s m).live) : LookSt Y row s0 met org i s (done ++ [m]) where
  b := h.b
  at_ := h.at_
  ng := h.ng
  seen := fun m' hm hl => by
    rcases List.mem_append.mp hm with q | q
    · exact h.seen m' q hl
    · rw [List.mem_singleton.mp q] at hl
      exact absurd hl hf
theorem LookSt.mem (h : LookSt Y row s0 met org i s done) : s ∈ met := List.mem_of_getElem? h.at_
theorem LookSt.add (h : LookSt Y row s0 met org i s done) (lk : LinksOk Y) (c : Can Y row.length s m) (hl : (aft row s m).live) (hn : aft row s m ∉ met) : Bst Y row s0 (met ++ [aft row s m]) (org ++ [some (i, m)]) i where
  bi := h.b.bi.add h.at_ ⟨⟨c, rfl⟩, hl⟩
  nd := by
    refine List.nodup_append.mpr ⟨h.b.nd, by simp, fun a ha b hb e => hn ?_⟩
    rw [List.mem_singleton.mp hb] at e
    exact e ▸ ha
  wf := fun t ht => by
    rcases List.mem_append.mp ht with q | q
    · exact h.b.wf t q
    · rw [List.mem_singleton.mp q]
      exact (h.b.wf s h.mem).aft lk c
  lv := fun t ht => by
    rcases List.mem_append.mp ht with q | q
    · exact h.b.lv t q
    · rw [List.mem_singleton.mp q]
      exact hl
  cl := fun j pj m' p hj hpj hs => by
    have hjl : j < met.length := by
      have := (List.getElem?_eq_some_iff.mp h.at_).1
      omega
    have hpj' : met[j]? = some pj := by
      rw [List.getElem?_append_left hjl] at hpj
      exact hpj
    obtain ⟨k, h1, h2⟩ := h.b.cl j pj m' p hj hpj' hs
    refine ⟨k, get_old h1, ?_⟩
    rcases h2 with h2 | ⟨j', m2, h2, h3⟩
    · exact .inl h2
    · exact .inr ⟨j', m2, get_old h2, h3⟩
theorem LookSt.more (h : LookSt Y row s0 met org i s done) (lk : LinksOk Y) (c : Can Y row.length s m) (hl : (aft row s m).live) (hn : aft row s m ∉ met) (hg : (aft row s m).gone.length ≠ row.length) :
    LookSt Y row s0 (met ++ [aft row s m]) (org ++ [some (i, m)]) i s (done ++ [m]) where
  b := h.add lk c hl hn
  at_ := get_old h.at_
  ng := fun t ht => by
    rcases List.mem_append.mp ht with q | q
    · exact h.ng t q
    · rw [List.mem_singleton.mp q]
      exact hg
  seen := fun m' hm hl' => by
    rcases List.mem_append.mp hm with q | q
    · obtain ⟨k, h1, h2⟩ := h.seen m' q hl'
      refine ⟨k, get_old h1, ?_⟩
      rcases h2 with h2 | ⟨j', m2, h2, h3⟩
      · exact .inl h2
      · exact .inr ⟨j', m2, get_old h2, h3⟩
    · rw [List.mem_singleton.mp q]
      refine ⟨met.length, by simp, .inr ⟨i, m, ?_, Nat.le_refl _⟩⟩
      rw [← h.b.bi.len]
      simp
theorem LookSt.found (h : LookSt Y row s0 met org i s done) (hg : (aft row s m).gone.length = row.length) : Found row (met ++ [aft row s m]) (org ++ [some (i, m)]) i :=
  ⟨met, _, m, rfl, hg, h.ng, by rw [← h.b.bi.len]; simp⟩
theorem LookSt.end (h : LookSt Y row s0 met org i s done) (all : ∀ m, Can Y row.length s m → m ∈ done) : Bst Y row s0 met org (i + 1) where
  bi := h.b.bi.up (Nat.le_succ _)
  nd := h.b.nd
  wf := h.b.wf
  lv := h.b.lv
  cl := fun j pj m p hj hpj hs => by
    by_cases hji : j < i
    · exact h.b.cl j pj m p hji hpj hs
    · have e : j = i := by omega
      subst e
      rw [h.at_] at hpj
      cases hpj
      obtain ⟨⟨c, rfl⟩, hl⟩ := hs
      exact h.seen m (all m c) hl
/-- there is room for one more -/
theorem Bst.few (b : Bst Y row s0 met org i) (hr : IsRow row) (h1 : 1 ≤ Y.kinds.length) (h2 : Y.kinds.length ≤ 3) (h3 : row.length ≤ 5) (h4 : Y.kinds.length + row.length ≤ 7) : met.length ≤ 4000 :=
  Nat.le_trans (nodup_len b.nd fun s hs => allSits_mem hr.nodup (b.wf s hs) (b.lv s hs)) (Nat.le_trans (allSits_len _ _) (total_le h1 h2 h3 h4))
theorem way_of {ms : List Mv} {t : Sit} (h : Run (Stp Y row) (init Y.kinds.length) ms t) (hg : t.gone.length = row.length) (hl : t.live) : Way Y row ms :=
  ⟨t, run_mk h, (done_iff hl).mpr hg⟩
theorem run_of {ms : List Mv} (h : Way Y row ms) : ∃ t, Run (Stp Y row) (init Y.kinds.length) ms t ∧ t.gone.length = row.length := by
  obtain ⟨t, h1, h2⟩ := h
  exact ⟨t, run_live h1 h2.live, (done_iff h2.live).mp h2⟩
theorem solve_found {ms : List Mv} (b : Bst Y row (init Y.kinds.length) met org i) (f : Found row met org i) (hc : Chain org (met.length - 1) ms) : SolveOk Y row (some ms) := by
  obtain ⟨met0, g, m, rfl, hg, hng, ho⟩ := f
  have hlen : (met0 ++ [g]).length - 1 = met0.length := by simp
  rw [hlen] at hc
  have hgm : (met0 ++ [g])[met0.length]? = some g := by simp
  have hgl := b.lv g (by simp)
  refine ⟨way_of (b.bi.run hc g hgm) hg hgl, fun ms' w => ?_⟩
  obtain ⟨t, h1, h2⟩ := run_of w
  refine b.bi.fewest (goal := fun t => t.gone.length = row.length) b.cl (by simp) ho (fun k p hk hp => ?_) hc h1 h2
  rw [List.getElem?_append_left hk] at hp
  exact hng p (List.mem_of_getElem? hp)
theorem solve_now {ms : List Mv} (hg : (init Y.kinds.length).gone.length = row.length) (hc : Chain ([none] : Org Mv) 0 ms) : SolveOk Y row (some ms) := by
  cases hc with
  | zero =>
    refine ⟨⟨init Y.kinds.length, rfl, ?_⟩, fun _ _ => Nat.zero_le _⟩
    have hl : (init Y.kinds.length).live := rfl
    exact (done_iff hl).mpr hg
  | more h => exact absurd rfl h
theorem solve_never (b : Bst Y row (init Y.kinds.length) met org met.length) (hng : NoGoal row met) : SolveOk Y row none := by
  intro ms w
  obtain ⟨t, h1, h2⟩ := run_of w
  exact b.bi.never (goal := fun t : Sit => t.gone.length = row.length) b.cl (fun p hp => hng p hp) h1 h2
end
/-! ### ways, turned round -/
section
variable {Y Y' : Yard} {ord num : List Nat} {row : List Int}
def tmvs (Y : Yard) (num : List Nat) (ms : List Mv) : List Mv := (ms.map (tmv Y num)).reverse
theorem rev_run (T : Trn Y Y' ord num) (lk : LinksOk Y) (hr : IsRow row) : ∀ {ms : List Mv} {s t : Sit}, WF Y row s → s.live → Run (Stp Y row) s ms t → WF Y row t ∧ Run (Mk Y' (trow row)) (revS Y row ord t) (tmvs Y num ms) (revS Y row ord s)
  | [], s, t, w, _, h => by
    cases h
    exact ⟨w, rfl⟩
  | m :: ms, s, t, w, hl, ⟨u, ⟨⟨c, e⟩, hu⟩, h2⟩ => by
    subst e
    obtain ⟨w2, h3⟩ := rev_run T lk hr (w.aft lk c) hu h2
    refine ⟨w2, ?_⟩
    have : tmvs Y num (m :: ms) = tmvs Y num ms ++ [tmv Y num m] := by simp [tmvs]
    rw [this]
    exact Run.snoc.mpr ⟨_, h3, rev_step T lk hr w hl c hu⟩
theorem sorted_empty {s : Sit} (w : WF Y row s) (h : Done row.length s) : ∀ l ∈ s.held, l = [] := by
  have hg : s.gone.length = row.length := (done_iff h.live).mp h
  have hp := w.perm.length_eq
  rw [List.length_append, List.length_take] at hp
  have hc := w.came
  have : s.held.flatten.length = 0 := by omega
  exact List.flatten_eq_nil_iff.mp (List.eq_nil_of_length_eq_zero this)
theorem sorted_came {s : Sit} (w : WF Y row s) (h : Done row.length s) : s.came = row.length := by
  have hg : s.gone.length = row.length := (done_iff h.live).mp h
  have hp := w.perm.length_eq
  rw [List.length_append, List.length_take] at hp
  have hc := w.came
  omega
theorem rev_empty (T : Trn Y Y' ord num) {s : Sit} (hl : s.held.length = Y.kinds.length) (h : ∀ l ∈ s.held, l = []) : ord.map (revD Y row s) = List.replicate Y.kinds.length [] := by
  refine List.eq_replicate_iff.mpr ⟨by rw [List.length_map, T.len], fun l hm => ?_⟩
  obtain ⟨k, _, rfl⟩ := List.mem_map.mp hm
  have e : s.held.getD k [] = [] := by
    rw [List.getD_eq_getElem?_getD]
    cases q : s.held[k]? with
    | none => rfl
    | some l => exact h l (List.mem_of_getElem? q)
  unfold revD
  rw [e]
  unfold fl
  split <;> rfl
theorem Trn.klen (T : Trn Y Y' ord num) : Y'.kinds.length = Y.kinds.length := by rw [T.kinds, List.length_map, T.len]
theorem way_turn (T : Trn Y Y' ord num) (lk : LinksOk Y) (hr : IsRow row) {ms : List Mv} (h : Way Y row ms) : Way Y' (trow row) (tmvs Y num ms) := by
  obtain ⟨t, h1, h2⟩ := h
  have h3 := run_live h1 h2.live
  obtain ⟨wt, hrun⟩ := rev_run T lk hr (WF.init Y row) rfl h3
  have hg : t.gone.length = row.length := (done_iff h2.live).mp h2
  have e1 : revS Y row ord t = init Y'.kinds.length := by
    unfold revS init
    rw [rev_empty T wt.len (sorted_empty wt h2), T.klen, hg, sorted_came wt h2, Nat.sub_self]
    rfl
  have e2 : (revS Y row ord (init Y.kinds.length)).gone = upTo (trow row).length := by
    show upTo (row.length - 0) = _
    rw [trow_len, Nat.sub_zero]
  rw [e1] at hrun
  exact ⟨_, hrun, e2⟩
/-- both directions -/
theorem solve_turn {ord' num' : List Nat} (T : Trn Y Y' ord num) (T' : Trn Y' Y ord' num') (lk : LinksOk Y) (lk' : LinksOk Y') (hr : IsRow row) {a b : Option (List Mv)} (ha : SolveOk Y row a) (hb : SolveOk Y' (trow row) b) :
    (a = none ∧ b = none) ∨ ∃ ms ms', a = some ms ∧ b = some ms' ∧ ms'.length = ms.length ∧ Way Y' (trow row) (tmvs Y num ms) ∧ (tmvs Y num ms).length = ms.length := by
  have tl : ∀ (Y : Yard) (num : List Nat) (ms : List Mv), (tmvs Y num ms).length = ms.length := fun Y num ms => by simp [tmvs]
  have back : ∀ {ms'}, Way Y' (trow row) ms' → Way Y row (tmvs Y' num' ms') := fun {ms'} w => by
    have := way_turn T' lk' (trow_row hr) w
    rw [trow_trow hr] at this
    exact this
  cases a with
  | none =>
    cases b with
    | none => exact .inl ⟨rfl, rfl⟩
    | some ms' => exact absurd (back hb.1) (ha _)
  | some ms =>
    have w := way_turn T lk hr ha.1
    cases b with
    | none => exact absurd w (hb _)
    | some ms' =>
      refine .inr ⟨ms, ms', rfl, rfl, ?_, w, tl _ _ _⟩
      have h1 := hb.2 _ w
      have h2 := ha.2 _ (back hb.1)
      rw [tl] at h1 h2
      omega
end
end YM
namespace YM
/-! ### trees of devices, their text, their yard -/
inductive Tr where
  | dev (k : Kd) (b : Nat)
  | node (sq : Bool) (l r : Tr)
def Tr.size : Tr → Nat
  | .dev _ _ => 1
  | .node _ l r => l.size + r.size
def Tr.hgt : Tr → Nat
  | .dev _ _ => 0
  | .node _ l r => max l.hgt r.hgt + 1
def Tr.bok : Tr → Prop
  | .dev _ b => b ≤ 4
  | .node _ l r => l.bok ∧ r.bok
def kdC : Kd → Nat
  | .s => 115 | .q => 113 | .d => 100 | .i => 105 | .o => 111
def opC (sq : Bool) : Nat := if sq then 91 else 40
def clC (sq : Bool) : Nat := if sq then 93 else 41
def dgC (b : Nat) : List Nat := if b = 0 then [] else [48 + b]
def told : Tr → List Nat
  | .dev k b => kdC k :: dgC b
  | .node sq l r => opC sq :: (told l ++ 32 :: (told r ++ [clC sq]))
def kds : Tr → List Kd
  | .dev k _ => [k]
  | .node _ l r => kds l ++ kds r
def bds : Tr → List Nat
  | .dev _ b => [b]
  | .node _ l r => bds l ++ bds r
def ent : Tr → Nat → List Nat
  | .dev _ _, f => [f]
  | .node sq l r, f => if sq then ent l f ++ ent r (f + l.size) else ent l f
def ext : Tr → Nat → List Nat
  | .dev _ _, f => [f]
  | .node sq l r, f => if sq then ext l f ++ ext r (f + l.size) else ext r (f + l.size)
def joinL (xs es : List Nat) : List (Int × Int) := xs.flatMap fun x => es.map fun e => (((x : Nat) : Int), ((e : Nat) : Int))
def lnk : Tr → Nat → List (Int × Int)
  | .dev _ _, _ => []
  | .node sq l r, f => lnk l f ++ lnk r (f + l.size) ++ (if sq then [] else joinL (ext l f) (ent r (f + l.size)))
def outerL (es xs : List Nat) : List (Int × Int) := (es.map fun e => ((-1 : Int), ((e : Nat) : Int))) ++ xs.map fun x => (((x : Nat) : Int), (-1 : Int))
def yardOf (t : Tr) : Yard := ⟨kds t, bds t, lnk t 0 ++ outerL (ent t 0) (ext t 0)⟩
def turnT : Tr → Tr
  | .dev k b => .dev k.turn b
  | .node sq l r => if sq then .node sq (turnT l) (turnT r) else .node sq (turnT r) (turnT l)
def ordT : Tr → Nat → List Nat
  | .dev _ _, f => [f]
  | .node sq l r, f => if sq then ordT l f ++ ordT r (f + l.size) else ordT r (f + l.size) ++ ordT l f
def numFrom : List Nat → Nat → List Nat → List Nat
  | num, _, [] => num
  | num, j, d :: ds => numFrom (num.set d j) (j + 1) ds
def numOf (ord : List Nat) : List Nat := numFrom (List.replicate ord.length 0) 0 ord
theorem size_pos : ∀ t : Tr, 1 ≤ t.size
  | .dev _ _ => Nat.le_refl _
  | .node _ l r => Nat.le_trans (size_pos l) (Nat.le_add_right _ _)
theorem turn_turn (k : Kd) : k.turn.turn = k := by cases k <;> rfl
theorem turnT_turnT : ∀ t : Tr, turnT (turnT t) = t
  | .dev k b => by simp [turnT, turn_turn]
  | .node sq l r => by
    cases sq <;> simp [turnT, turnT_turnT l, turnT_turnT r]
theorem turnT_size : ∀ t : Tr, (turnT t).size = t.size
  | .dev k b => rfl
  | .node sq l r => by
    cases sq <;> simp [turnT, Tr.size, turnT_size l, turnT_size r] <;> omega
theorem turnT_bok : ∀ t : Tr, t.bok → (turnT t).bok
  | .dev k b, h => h
  | .node sq l r, ⟨h1, h2⟩ => by
    cases sq
    · exact ⟨turnT_bok r h2, turnT_bok l h1⟩
    · exact ⟨turnT_bok l h1, turnT_bok r h2⟩
theorem kds_len : ∀ t : Tr, (kds t).length = t.size
  | .dev _ _ => rfl
  | .node _ l r => by simp [kds, Tr.size, kds_len l, kds_len r]
theorem bds_len : ∀ t : Tr, (bds t).length = t.size
  | .dev _ _ => rfl
  | .node _ l r => by simp [bds, Tr.size, bds_len l, bds_len r]
theorem ordT_len : ∀ (t : Tr) (f : Nat), (ordT t f).length = t.size
  | .dev _ _, _ => rfl
  | .node sq l r, f => by cases sq <;> simp [ordT, Tr.size, ordT_len l, ordT_len r] <;> omega
/-! the shape -/
def sk : Tr → Tr
  | .dev _ _ => .dev .s 0
  | .node sq l r => .node sq (sk l) (sk r)
theorem sk_size : ∀ t : Tr, (sk t).size = t.size
  | .dev _ _ => rfl
  | .node _ l r => by simp [sk, Tr.size, sk_size l, sk_size r]
theorem sk_ent : ∀ (t : Tr) (f : Nat), ent (sk t) f = ent t f
  | .dev _ _, _ => rfl
  | .node _ l r, f => by simp [sk, ent, sk_size l, sk_ent l, sk_ent r]
theorem sk_ext : ∀ (t : Tr) (f : Nat), ext (sk t) f = ext t f
  | .dev _ _, _ => rfl
  | .node _ l r, f => by simp [sk, ext, sk_size l, sk_ext l, sk_ext r]
theorem sk_lnk : ∀ (t : Tr) (f : Nat), lnk (sk t) f = lnk t f
  | .dev _ _, _ => rfl
  | .node _ l r, f => by simp [sk, lnk, sk_size l, sk_lnk l, sk_lnk r, sk_ext, sk_ent]
theorem sk_ord : ∀ (t : Tr) (f : Nat), ordT (sk t) f = ordT t f
  | .dev _ _, _ => rfl
  | .node _ l r, f => by simp [sk, ordT, sk_size l, sk_ord l, sk_ord r]
theorem sk_turn : ∀ t : Tr, sk (turnT t) = turnT (sk t)
  | .dev _ _ => rfl
  | .node sq l r => by cases sq <;> simp [sk, turnT, sk_turn l, sk_turn r]
def links (t : Tr) : List (Int × Int) := lnk t 0 ++ outerL (ent t 0) (ext t 0)
theorem sk_links (t : Tr) : links (sk t) = links t := by simp [links, sk_lnk, sk_ent, sk_ext]
def D0 : Tr := .dev .s 0
def shapes : List Tr := D0 :: ([false, true].flatMap fun a => .node a D0 D0 :: ([false, true].flatMap fun b => [.node a D0 (.node b D0 D0), .node a (.node b D0 D0) D0]))
theorem sk_mem : ∀ {t : Tr}, t.size ≤ 3 → sk t ∈ shapes
  | .dev _ _, _ => by simp [shapes, sk, D0]
  | .node a (.dev _ _) (.dev _ _), _ => by cases a <;> simp [shapes, sk, D0]
  | .node a (.dev _ _) (.node b (.dev _ _) (.dev _ _)), _ => by cases a <;> cases b <;> simp [shapes, sk, D0]
  | .node a (.node b (.dev _ _) (.dev _ _)) (.dev _ _), _ => by cases a <;> cases b <;> simp [shapes, sk, D0]
  | .node _ (.node _ _ _) (.node _ _ _), h => by
    exfalso
    rename_i l1 l2 _ r1 r2
    have := size_pos l1
    have := size_pos l2
    have := size_pos r1
    have := size_pos r2
    simp only [Tr.size] at h
    omega
  | .node _ (.dev _ _) (.node _ (.node _ _ _) _), h => by
    exfalso
    rename_i _ _ _ _ l1 l2 r
    have := size_pos l1
    have := size_pos l2
    have := size_pos r
    simp only [Tr.size] at h
    omega
  | .node _ (.dev _ _) (.node _ (.dev _ _) (.node _ l1 l2)), h => by
    exfalso
    have := size_pos l1
    have := size_pos l2
    simp only [Tr.size] at h
    omega
  | .node _ (.node _ (.node _ l1 l2) r) (.dev _ _), h => by
    exfalso
    have := size_pos l1
    have := size_pos l2
    have := size_pos r
    simp only [Tr.size] at h
    omega
  | .node _ (.node _ (.dev _ _) (.node _ l1 l2)) (.dev _ _), h => by
    exfalso
    have := size_pos l1
    have := size_pos l2
    simp only [Tr.size] at h
    omega
def shOk (s : Tr) : Bool :=
  decide ((links s).length ≤ 6) && (links s).all (fun p => (decide (p.1 = -1) || decide (0 ≤ p.1 ∧ p.1.toNat < s.size)) && (decide (p.2 = -1) || decide (0 ≤ p.2 ∧ p.2.toNat < s.size)) && decide (p.1 ≠ p.2))
    && (links s).all (fun p => decide ((nm (numOf (ordT s 0)) p.2, nm (numOf (ordT s 0)) p.1) ∈ links (turnT s)))
    && (List.range s.size).all (fun j => decide ((ordT s 0).getD j 0 < s.size) && decide ((numOf (ordT s 0)).getD ((ordT s 0).getD j 0) 0 = j) && decide ((numOf (ordT s 0)).getD j 0 < s.size) && decide ((ordT s 0).getD ((numOf (ordT s 0)).getD j 0) 0 = j))
    && decide ((numOf (ordT s 0)).length = s.size)
theorem shapes_ok : ∀ s ∈ shapes, shOk s = true := by decide +kernel
theorem sh_all {t : Tr} (h : t.size ≤ 3) : shOk (sk t) = true := shapes_ok _ (sk_mem h)
theorem links_ok {t : Tr} (h : t.size ≤ 3) : LinksOk (yardOf t) ∧ (yardOf t).links.length ≤ 6 := by
  have := sh_all h
  unfold shOk at this
  rw [sk_links, sk_size] at this
  simp only [Bool.and_eq_true, List.all_eq_true, Bool.or_eq_true, decide_eq_true_eq] at this
  obtain ⟨⟨⟨⟨h1, h2⟩, _⟩, _⟩, _⟩ := this
  have hk : (yardOf t).kinds.length = t.size := kds_len t
  refine ⟨⟨fun a b hab => ?_, fun a b hab => ?_, fun a b hab => (h2 (a, b) hab).2⟩, h1⟩
  · rw [hk]
    exact (h2 (a, b) hab).1.1
  · rw [hk]
    exact (h2 (a, b) hab).1.2
theorem kinds_turn : ∀ {t : Tr}, t.size ≤ 3 → kds (turnT t) = (ordT t 0).map (fun k => ((yardOf t).kind k).turn) ∧ bds (turnT t) = (ordT t 0).map (yardOf t).bound
  | .dev _ _, _ => ⟨rfl, rfl⟩
  | .node a (.dev _ _) (.dev _ _), _ => by cases a <;> exact ⟨rfl, rfl⟩
  | .node a (.dev _ _) (.node b (.dev _ _) (.dev _ _)), _ => by cases a <;> cases b <;> exact ⟨rfl, rfl⟩
  | .node a (.node b (.dev _ _) (.dev _ _)) (.dev _ _), _ => by cases a <;> cases b <;> exact ⟨rfl, rfl⟩
  | .node _ (.node _ _ _) (.node _ _ _), h => by
    exfalso
    rename_i l1 l2 _ r1 r2
    have := size_pos l1
    have := size_pos l2
    have := size_pos r1
    have := size_pos r2
    simp only [Tr.size] at h
    omega
  | .node _ (.dev _ _) (.node _ (.node _ _ _) _), h => by
    exfalso
    rename_i _ _ _ _ l1 l2 r
    have := size_pos l1
    have := size_pos l2
    have := size_pos r
    simp only [Tr.size] at h
    omega
  | .node _ (.dev _ _) (.node _ (.dev _ _) (.node _ l1 l2)), h => by
    exfalso
    have := size_pos l1
    have := size_pos l2
    simp only [Tr.size] at h
    omega
  | .node _ (.node _ (.node _ l1 l2) r) (.dev _ _), h => by
    exfalso
    have := size_pos l1
    have := size_pos l2
    have := size_pos r
    simp only [Tr.size] at h
    omega
  | .node _ (.node _ (.dev _ _) (.node _ l1 l2)) (.dev _ _), h => by
    exfalso
    have := size_pos l1
    have := size_pos l2
    simp only [Tr.size] at h
    omega
theorem trn_of {t : Tr} (h : t.size ≤ 3) : Trn (yardOf t) (yardOf (turnT t)) (ordT t 0) (numOf (ordT t 0)) := by
  have := sh_all h
  unfold shOk at this
  rw [sk_links, sk_size, sk_ord, ← sk_turn, sk_links] at this
  simp only [Bool.and_eq_true, List.all_eq_true, Bool.or_eq_true, decide_eq_true_eq, List.mem_range] at this
  obtain ⟨⟨⟨_, h3⟩, h4⟩, h5⟩ := this
  have hk : (yardOf t).kinds.length = t.size := kds_len t
  refine ⟨by rw [hk, ordT_len], (kinds_turn h).1, (kinds_turn h).2, fun j hj => ?_, fun j hj => ?_, fun a b hab => h3 (a, b) hab⟩
  · rw [hk] at hj ⊢
    obtain ⟨⟨⟨q1, q2⟩, _⟩, _⟩ := h4 j hj
    exact ⟨q1, q2⟩
  · rw [hk] at hj ⊢
    obtain ⟨⟨_, q1⟩, q2⟩ := h4 j hj
    exact ⟨q1, q2⟩
theorem num_len {t : Tr} (h : t.size ≤ 3) : (numOf (ordT t 0)).length = t.size := by
  have := sh_all h
  unfold shOk at this
  rw [sk_size, sk_ord] at this
  simp only [Bool.and_eq_true, decide_eq_true_eq] at this
  exact this.2
end YM
namespace YM
/-! ### reading the text: frames -/
inductive Fr where
  | lft (sq : Bool) (r : Tr)
  | rgt (sq : Bool) (l : Tr) (f : Nat)
def plugT : Tr → List Fr → Tr
  | t, [] => t
  | t, .lft sq r :: fs => plugT (.node sq t r) fs
  | t, .rgt sq l _ :: fs => plugT (.node sq l t) fs
def restF : List Fr → List Nat
  | [] => []
  | .lft sq r :: fs => 32 :: (told r ++ clC sq :: restF fs)
  | .rgt sq _ _ :: fs => clC sq :: restF fs
def szF : List Fr → Nat
  | [] => 0
  | .lft _ _ :: fs => szF fs
  | .rgt _ l _ :: fs => szF fs + l.size
def kdF : List Fr → List Kd
  | [] => []
  | .lft _ _ :: fs => kdF fs
  | .rgt _ l _ :: fs => kdF fs ++ kds l
def bdF : List Fr → List Nat
  | [] => []
  | .lft _ _ :: fs => bdF fs
  | .rgt _ l _ :: fs => bdF fs ++ bds l
def lkF : List Fr → List (Int × Int)
  | [] => []
  | .lft _ _ :: fs => lkF fs
  | .rgt _ l _ :: fs => lkF fs ++ lnk l (szF fs)
def FrOk : List Fr → Prop
  | [] => True
  | .lft _ _ :: fs => FrOk fs
  | .rgt _ _ f :: fs => f = szF fs ∧ FrOk fs
theorem plug_size : ∀ (fs : List Fr) (t : Tr), fs.length + t.size ≤ (plugT t fs).size ∧ szF fs + t.size ≤ (plugT t fs).size
  | [], t => by simp [plugT, szF]
  | .lft sq r :: fs, t => by
    have h := plug_size fs (.node sq t r)
    have := size_pos r
    simp only [Tr.size] at h
    simp only [plugT, szF, List.length_cons]
    omega
  | .rgt sq l f :: fs, t => by
    have h := plug_size fs (.node sq l t)
    have := size_pos l
    simp only [Tr.size] at h
    simp only [plugT, szF, List.length_cons]
    omega
theorem kdF_len : ∀ fs : List Fr, (kdF fs).length = szF fs
  | [] => rfl
  | .lft _ _ :: fs => kdF_len fs
  | .rgt _ l _ :: fs => by simp [kdF, szF, kdF_len fs, kds_len]
theorem plug_bok : ∀ (fs : List Fr) (t : Tr), (plugT t fs).bok → t.bok
  | [], _, h => h
  | .lft _ _ :: fs, t, h => (plug_bok fs _ h).1
  | .rgt _ _ _ :: fs, t, h => (plug_bok fs _ h).2
theorem joinL_len (xs es : List Nat) : (joinL xs es).length = xs.length * es.length := by
  unfold joinL
  induction xs with
  | nil => simp
  | cons x xs ih =>
    rw [List.flatMap_cons, List.length_append, ih, List.length_map, List.length_cons, Nat.add_mul]
    omega
theorem ent_len : ∀ (t : Tr) (f : Nat), 1 ≤ (ent t f).length ∧ (ent t f).length ≤ t.size
  | .dev _ _, _ => ⟨Nat.le_refl _, Nat.le_refl _⟩
  | .node sq l r, f => by
    have h1 := ent_len l f
    have h2 := ent_len r (f + l.size)
    cases sq
    · simp only [ent, Tr.size, Bool.false_eq_true, if_false]
      omega
    · simp only [ent, Tr.size, if_true, List.length_append]
      omega
theorem ext_len : ∀ (t : Tr) (f : Nat), 1 ≤ (ext t f).length ∧ (ext t f).length ≤ t.size
  | .dev _ _, _ => ⟨Nat.le_refl _, Nat.le_refl _⟩
  | .node sq l r, f => by
    have h1 := ext_len l f
    have h2 := ext_len r (f + l.size)
    cases sq
    · simp only [ext, Tr.size, Bool.false_eq_true, if_false]
      omega
    · simp only [ext, Tr.size, if_true, List.length_append]
      omega
theorem lnk_len : ∀ (t : Tr) (f : Nat), (lnk t f).length ≤ t.size * t.size
  | .dev _ _, _ => Nat.zero_le _
  | .node sq l r, f => by
    have h1 := lnk_len l f
    have h2 := lnk_len r (f + l.size)
    have h3 := (ext_len l f).2
    have h4 := (ent_len r (f + l.size)).2
    have h5 : (ext l f).length * (ent r (f + l.size)).length ≤ l.size * r.size := Nat.mul_le_mul h3 h4
    have h6 : (l.size + r.size) * (l.size + r.size) = l.size * l.size + l.size * r.size + (l.size * r.size + r.size * r.size) := by
      rw [Nat.add_mul, Nat.mul_add, Nat.mul_add, Nat.mul_comm r.size l.size]
    have h7 : (if sq = true then ([] : List (Int × Int)) else joinL (ext l f) (ent r (f + l.size))).length ≤ l.size * r.size := by
      cases sq
      · rw [if_neg (by decide), joinL_len]
        exact h5
      · exact Nat.zero_le _
    show (lnk l f ++ lnk r (f + l.size) ++ _).length ≤ (l.size + r.size) * (l.size + r.size)
    rw [List.length_append, List.length_append, h6]
    omega
theorem lkF_len : ∀ fs : List Fr, (lkF fs).length ≤ szF fs * szF fs
  | [] => Nat.zero_le _
  | .lft _ _ :: fs => lkF_len fs
  | .rgt _ l _ :: fs => by
    have h1 := lkF_len fs
    have h2 := lnk_len l (szF fs)
    have h6 : (szF fs + l.size) * (szF fs + l.size) = szF fs * szF fs + szF fs * l.size + (szF fs * l.size + l.size * l.size) := by
      rw [Nat.add_mul, Nat.mul_add, Nat.mul_add, Nat.mul_comm l.size (szF fs)]
    show (lkF fs ++ lnk l (szF fs)).length ≤ (szF fs + l.size) * (szF fs + l.size)
    rw [List.length_append, h6]
    omega
theorem sq9 {n : Nat} (h : n ≤ 3) : n * n ≤ 9 := Nat.mul_le_mul h h
/-! ### the parts of a text -/
def slc (full : List Nat) (a b : Nat) : List Nat := (full.drop a).take (b - a)
def pdep (c : Nat) (d : Int) : Int := if c = 40 ∨ c = 91 then d + 1 else if c = 41 ∨ c = 93 then d - 1 else d
abbrev PSt := Int × Nat × List (List Nat)
def pstep (full : List Nat) (i c : Nat) (st : PSt) : PSt :=
  if (c = 32 ∧ pdep c st.1 = 1) ∨ pdep c st.1 = 0 then (pdep c st.1, i + 1, st.2.2 ++ [slc full st.2.1 i]) else (pdep c st.1, st.2.1, st.2.2)
def pfold (full : List Nat) : Nat → List Nat → PSt → PSt
  | _, [], st => st
  | i, c :: cs, st => pfold full (i + 1) cs (pstep full i c st)
theorem pdep_op (sq : Bool) (d : Int) : pdep (opC sq) d = d + 1 := by cases sq <;> simp [pdep, opC]
theorem pdep_cl (sq : Bool) (d : Int) : pdep (clC sq) d = d - 1 := by cases sq <;> simp [pdep, clC]
theorem pdep_kd (k : Kd) (d : Int) : pdep (kdC k) d = d := by cases k <;> simp [pdep, kdC]
theorem pdep_dg {b : Nat} (h : b ≤ 4) (d : Int) : pdep (48 + b) d = d := by
  unfold pdep
  rw [if_neg (by omega), if_neg (by omega)]
theorem pdep_sp (d : Int) : pdep 32 d = d := by simp [pdep]
theorem kd_sp (k : Kd) : kdC k ≠ 32 := by cases k <;> decide
theorem op_sp (sq : Bool) : opC sq ≠ 32 := by cases sq <;> decide
theorem cl_sp (sq : Bool) : clC sq ≠ 32 := by cases sq <;> decide
theorem pstep_no {full : List Nat} {i c : Nat} {d : Int} {s : Nat} {ps : List (List Nat)} (h : ¬ ((c = 32 ∧ pdep c d = 1) ∨ pdep c d = 0)) : pstep full i c (d, s, ps) = (pdep c d, s, ps) := by
  unfold pstep
  rw [if_neg h]
theorem pstep_yes {full : List Nat} {i c : Nat} {d : Int} {s : Nat} {ps : List (List Nat)} (h : (c = 32 ∧ pdep c d = 1) ∨ pdep c d = 0) : pstep full i c (d, s, ps) = (pdep c d, i + 1, ps ++ [slc full s i]) := by
  unfold pstep
  rw [if_pos h]
theorem pf_told {full : List Nat} {s : Nat} {ps : List (List Nat)} : ∀ (t : Tr) (i : Nat) (d : Int) (r : List Nat), t.bok → 1 ≤ d → pfold full i (told t ++ r) (d, s, ps) = pfold full (i + (told t).length) r (d, s, ps)
  | .dev k b, i, d, r, hb, hd => by
    have hb' : b ≤ 4 := hb
    have e1 : pstep full i (kdC k) (d, s, ps) = (d, s, ps) := by
      rw [pstep_no (by rw [pdep_kd]; have := kd_sp k; omega), pdep_kd]
    by_cases h0 : b = 0
    · subst h0
      show pfold full (i + 1) r (pstep full i (kdC k) (d, s, ps)) = _
      rw [e1]
      rfl
    · have e2 : told (.dev k b) = [kdC k, 48 + b] := by simp [told, dgC, h0]
      rw [e2]
      show pfold full (i + 1 + 1) r (pstep full (i + 1) (48 + b) (pstep full i (kdC k) (d, s, ps))) = _
      rw [e1, pstep_no (by rw [pdep_dg hb']; omega), pdep_dg hb']
      rfl
  | .node sq l r', i, d, r, ⟨hl, hr⟩, hd => by
    have e0 : told (.node sq l r') ++ r = opC sq :: (told l ++ (32 :: (told r' ++ (clC sq :: r)))) := by simp [told]
    have elen : (told (.node sq l r')).length = 1 + (told l).length + 1 + (told r').length + 1 := by simp [told]; omega
    rw [e0]
    show pfold full (i + 1) _ (pstep full i (opC sq) (d, s, ps)) = _
    rw [pstep_no (by rw [pdep_op]; have := op_sp sq; omega), pdep_op, pf_told l _ _ _ hl (by omega)]
    show pfold full _ _ (pstep full _ 32 (d + 1, s, ps)) = _
    rw [pstep_no (by rw [pdep_sp]; omega), pdep_sp, pf_told r' _ _ _ hr (by omega)]
    show pfold full _ r (pstep full _ (clC sq) (d + 1, s, ps)) = _
    rw [pstep_no (by rw [pdep_cl]; have := cl_sp sq; omega), pdep_cl, elen]
    rw [show d + 1 - 1 = d by omega]
    congr 1
    omega
theorem slc_mid {a b c : List Nat} {i j : Nat} (hi : i = a.length) (hj : j = a.length + b.length) : slc (a ++ (b ++ c)) i j = b := by
  unfold slc
  rw [hi, hj, List.drop_left, show a.length + b.length - a.length = b.length by omega, List.take_left]
theorem parts_node {sq : Bool} {l r : Tr} (hl : l.bok) (hr : r.bok) : ∃ d s, pfold (told (.node sq l r)) 0 (told (.node sq l r)) (0, 1, []) = (d, s, [told l, told r]) := by
  generalize hfull : told (.node sq l r) = full
  have e0 : full = opC sq :: (told l ++ (32 :: (told r ++ [clC sq]))) := by rw [← hfull]; rfl
  refine ⟨0, full.length, ?_⟩
  rw [show pfold full 0 full (0, 1, []) = pfold full 0 (opC sq :: (told l ++ (32 :: (told r ++ [clC sq])))) (0, 1, []) by rw [← e0]]
  show pfold full (0 + 1) _ (pstep full 0 (opC sq) (0, 1, [])) = _
  rw [pstep_no (by rw [pdep_op]; have := op_sp sq; omega), pdep_op, pf_told l _ _ _ hl (by omega)]
  show pfold full _ _ (pstep full _ 32 (0 + 1, 1, [])) = _
  rw [pstep_yes (.inl ⟨rfl, by rw [pdep_sp]; rfl⟩), pdep_sp, pf_told r _ _ _ hr (by omega)]
  show pstep full (0 + 1 + (told l).length + 1 + (told r).length) (clC sq) _ = _
  rw [pstep_yes (.inr (by rw [pdep_cl]; rfl)), pdep_cl]
  have e1 : slc full 1 (0 + 1 + (told l).length) = told l := by
    rw [e0]
    exact slc_mid (a := [opC sq]) (by rfl) (by simp)
  have e2 : slc full (0 + 1 + (told l).length + 1) (0 + 1 + (told l).length + 1 + (told r).length) = told r := by
    rw [e0, show opC sq :: (told l ++ (32 :: (told r ++ [clC sq]))) = (opC sq :: (told l ++ [32])) ++ (told r ++ [clC sq]) by simp]
    exact slc_mid (by simp; omega) (by simp; omega)
  rw [e1, e2]
  have e3 : full.length = 0 + 1 + (told l).length + 1 + (told r).length + 1 := by rw [e0]; simp; omega
  rw [e3]
  rfl
theorem told_ne (t : Tr) : told t ≠ [] := by cases t <;> simp [told]
theorem told_len : ∀ t : Tr, (told t).length + 3 ≤ 5 * t.size
  | .dev k b => by
    unfold told dgC
    split <;> simp [Tr.size]
  | .node sq l r => by
    have h1 := told_len l
    have h2 := told_len r
    simp only [told, Tr.size, List.length_cons, List.length_append, List.length_nil]
    omega
theorem hgt_size : ∀ t : Tr, t.hgt + 1 ≤ t.size
  | .dev _ _ => Nat.le_refl _
  | .node _ l r => by
    have h1 := hgt_size l
    have h2 := hgt_size r
    have h3 := size_pos l
    have h4 := size_pos r
    simp only [Tr.hgt, Tr.size]
    omega
end YM
namespace YW
open PySem L2
/-! ### the text by places -/
def top (i : Nat) : Stmt := PySem.Challenge.pw_yardsort_k25_whole_turned_yards.main.body.getD i (.Pass ⟨0, 0, 0, 0⟩)
abbrev s_is_row : Stmt := top 9
abbrev s_G_init : Stmt := inClass (top 21) 0
abbrev s_R_init : Stmt := inClass (top 22) 0
abbrev s_R_sign : Stmt := inClass (top 22) 1
abbrev s_R_device : Stmt := inClass (top 22) 3
abbrev s_R_first_device : Stmt := inClass (top 22) 4
abbrev s_R_joined : Stmt := inClass (top 22) 5
abbrev s_R_closed : Stmt := inClass (top 22) 6
abbrev s_R_whole : Stmt := inClass (top 22) 7
abbrev s_Y_init : Stmt := inClass (top 23) 0
abbrev s_Y_len : Stmt := inClass (top 23) 1
abbrev s_Y_ins : Stmt := inClass (top 23) 2
abbrev s_Y_outs : Stmt := inClass (top 23) 3
abbrev s_Y_room : Stmt := inClass (top 23) 5
abbrev s_parts_of : Stmt := top 24
abbrev s_turned_part : Stmt := top 25
abbrev s_turned : Stmt := top 26
abbrev s_turned_order : Stmt := top 27
abbrev s_turned_numbers : Stmt := top 28
abbrev s_check_row : Stmt := top 30
abbrev s_first_situation : Stmt := top 31
abbrev s_source_ends : Stmt := top 32
abbrev s_target_ends : Stmt := top 33
abbrev s_possible : Stmt := top 34
abbrev s_wagon_of : Stmt := top 35
abbrev s_after : Stmt := top 36
abbrev s_is_live : Stmt := top 39
abbrev s_S_init : Stmt := inClass (top 40) 0
abbrev s_S_is_goal : Stmt := inClass (top 40) 1
abbrev s_S_look : Stmt := inClass (top 40) 2
abbrev s_S_finish : Stmt := inClass (top 40) 3
abbrev s_S_way : Stmt := inClass (top 40) 4
abbrev s_search_from : Stmt := top 41
abbrev s_solve : Stmt := top 42
abbrev s_fewest : Stmt := top 43
abbrev s_replay : Stmt := top 45
abbrev s_sorts : Stmt := top 46
abbrev s_turned_end : Stmt := top 47
abbrev s_turned_moves : Stmt := top 48
abbrev s_turned_row : Stmt := top 49
abbrev s_law_number : Stmt := top 51
abbrev s_law_draws : Stmt := top 52
abbrev s_law_next : Stmt := top 53
abbrev s_law_tree : Stmt := top 54
abbrev s_law_told : Stmt := top 55
abbrev s_law_net : Stmt := top 56
abbrev s_law_plan : Stmt := top 57
abbrev s_law_row : Stmt := top 64
abbrev s_law_drawn : Stmt := top 65
abbrev s_law_turned_row : Stmt := top 66
abbrev s_law : Stmt := top 67
abbrev n_is_row : List Str := ["numbers"]
theorem sc_is_row : FnScope n_is_row ["numbers"] (C8.fnScope s_is_row) := C8.fnScope_by (by decide +kernel)
abbrev n_G_init : List Str := ["self", "sign"]
theorem sc_G_init : FnScope n_G_init ["self", "sign"] (C8.fnScope s_G_init) := C8.fnScope_by (by decide +kernel)
abbrev n_R_init : List Str := ["self", "text"]
theorem sc_R_init : FnScope n_R_init ["self", "text"] (C8.fnScope s_R_init) := C8.fnScope_by (by decide +kernel)
abbrev n_R_sign : List Str := ["self"]
theorem sc_R_sign : FnScope n_R_sign ["self"] (C8.fnScope s_R_sign) := C8.fnScope_by (by decide +kernel)
abbrev n_R_device : List Str := ["self", "number", "bound"]
theorem sc_R_device : FnScope n_R_device ["self"] (C8.fnScope s_R_device) := C8.fnScope_by (by decide +kernel)
abbrev n_R_first_device : List Str := ["self"]
theorem sc_R_first_device : FnScope n_R_first_device ["self"] (C8.fnScope s_R_first_device) := C8.fnScope_by (by decide +kernel)
abbrev n_R_joined : List Str := ["self", "group", "entry", "entries", "out", "at", "yard"]
theorem sc_R_joined : FnScope n_R_joined ["self", "group"] (C8.fnScope s_R_joined) := C8.fnScope_by (by decide +kernel)
abbrev n_R_closed : List Str := ["self", "yard", "group"]
theorem sc_R_closed : FnScope n_R_closed ["self", "yard"] (C8.fnScope s_R_closed) := C8.fnScope_by (by decide +kernel)
abbrev n_R_whole : List Str := ["self", "yard"]
theorem sc_R_whole : FnScope n_R_whole ["self"] (C8.fnScope s_R_whole) := C8.fnScope_by (by decide +kernel)
abbrev n_Y_init : List Str := ["self", "text", "reading", "entries", "exits", "outer", "entry", "out"]
theorem sc_Y_init : FnScope n_Y_init ["self", "text"] (C8.fnScope s_Y_init) := C8.fnScope_by (by decide +kernel)
abbrev n_Y_len : List Str := ["self"]
theorem sc_Y_len : FnScope n_Y_len ["self"] (C8.fnScope s_Y_len) := C8.fnScope_by (by decide +kernel)
abbrev n_Y_ins : List Str := ["self", "device"]
theorem sc_Y_ins : FnScope n_Y_ins ["self", "device"] (C8.fnScope s_Y_ins) := C8.fnScope_by (by decide +kernel)
abbrev n_Y_outs : List Str := ["self", "device"]
theorem sc_Y_outs : FnScope n_Y_outs ["self", "device"] (C8.fnScope s_Y_outs) := C8.fnScope_by (by decide +kernel)
abbrev n_Y_room : List Str := ["self", "device", "count"]
theorem sc_Y_room : FnScope n_Y_room ["self", "device", "count"] (C8.fnScope s_Y_room) := C8.fnScope_by (by decide +kernel)
abbrev n_parts_of : List Str := ["text", "parts", "depth", "start", "at", "sign"]
theorem sc_parts_of : FnScope n_parts_of ["text"] (C8.fnScope s_parts_of) := C8.fnScope_by (by decide +kernel)
abbrev n_turned_part : List Str := ["text", "parts", "part"]
theorem sc_turned_part : FnScope n_turned_part ["text"] (C8.fnScope s_turned_part) := C8.fnScope_by (by decide +kernel)
abbrev n_turned : List Str := ["text"]
theorem sc_turned : FnScope n_turned ["text"] (C8.fnScope s_turned) := C8.fnScope_by (by decide +kernel)
abbrev n_turned_order : List Str := ["text", "first", "rows", "part", "row", "number"]
theorem sc_turned_order : FnScope n_turned_order ["text", "first"] (C8.fnScope s_turned_order) := C8.fnScope_by (by decide +kernel)
abbrev n_turned_numbers : List Str := ["text", "order", "numbers", "at", "device"]
theorem sc_turned_numbers : FnScope n_turned_numbers ["text"] (C8.fnScope s_turned_numbers) := C8.fnScope_by (by decide +kernel)
abbrev n_check_row : List Str := ["row"]
theorem sc_check_row : FnScope n_check_row ["row"] (C8.fnScope s_check_row) := C8.fnScope_by (by decide +kernel)
abbrev n_first_situation : List Str := ["yard", "row", "_"]
theorem sc_first_situation : FnScope n_first_situation ["yard", "row"] (C8.fnScope s_first_situation) := C8.fnScope_by (by decide +kernel)
abbrev n_source_ends : List Str := ["yard", "row", "situation", "source", "came", "held", "_"]
theorem sc_source_ends : FnScope n_source_ends ["yard", "row", "situation", "source"] (C8.fnScope s_source_ends) := C8.fnScope_by (by decide +kernel)
abbrev n_target_ends : List Str := ["yard", "situation", "target"]
theorem sc_target_ends : FnScope n_target_ends ["yard", "situation", "target"] (C8.fnScope s_target_ends) := C8.fnScope_by (by decide +kernel)
abbrev n_possible : List Str := ["yard", "row", "situation", "moves", "source", "target", "out", "end"]
theorem sc_possible : FnScope n_possible ["yard", "row", "situation"] (C8.fnScope s_possible) := C8.fnScope_by (by decide +kernel)
abbrev n_wagon_of : List Str := ["row", "situation", "move", "came", "held", "_"]
theorem sc_wagon_of : FnScope n_wagon_of ["row", "situation", "move"] (C8.fnScope s_wagon_of) := C8.fnScope_by (by decide +kernel)
abbrev n_after : List Str := ["row", "situation", "move", "came", "held", "gone", "wagon", "devices", "source", "out", "target", "end"]
theorem sc_after : FnScope n_after ["row", "situation", "move"] (C8.fnScope s_after) := C8.fnScope_by (by decide +kernel)
abbrev n_is_live : List Str := ["situation", "gone"]
theorem sc_is_live : FnScope n_is_live ["situation"] (C8.fnScope s_is_live) := C8.fnScope_by (by decide +kernel)
abbrev n_S_init : List Str := ["self", "yard", "row", "situation"]
theorem sc_S_init : FnScope n_S_init ["self", "yard", "row", "situation"] (C8.fnScope s_S_init) := C8.fnScope_by (by decide +kernel)
abbrev n_S_is_goal : List Str := ["self", "situation"]
theorem sc_S_is_goal : FnScope n_S_is_goal ["self", "situation"] (C8.fnScope s_S_is_goal) := C8.fnScope_by (by decide +kernel)
abbrev n_S_look : List Str := ["self", "index", "situation", "move", "following"]
theorem sc_S_look : FnScope n_S_look ["self", "index"] (C8.fnScope s_S_look) := C8.fnScope_by (by decide +kernel)
abbrev n_S_finish : List Str := ["self", "index"]
theorem sc_S_finish : FnScope n_S_finish ["self"] (C8.fnScope s_S_finish) := C8.fnScope_by (by decide +kernel)
abbrev n_S_way : List Str := ["self", "moves", "index", "move"]
theorem sc_S_way : FnScope n_S_way ["self"] (C8.fnScope s_S_way) := C8.fnScope_by (by decide +kernel)
abbrev n_search_from : List Str := ["yard", "row", "situation", "search"]
theorem sc_search_from : FnScope n_search_from ["yard", "row", "situation"] (C8.fnScope s_search_from) := C8.fnScope_by (by decide +kernel)
abbrev n_solve : List Str := ["yard", "row", "search"]
theorem sc_solve : FnScope n_solve ["yard", "row"] (C8.fnScope s_solve) := C8.fnScope_by (by decide +kernel)
abbrev n_fewest : List Str := ["yard", "row", "way"]
theorem sc_fewest : FnScope n_fewest ["yard", "row"] (C8.fnScope s_fewest) := C8.fnScope_by (by decide +kernel)
abbrev n_replay : List Str := ["yard", "row", "moves", "situations", "at", "move"]
theorem sc_replay : FnScope n_replay ["yard", "row", "moves"] (C8.fnScope s_replay) := C8.fnScope_by (by decide +kernel)
abbrev n_sorts : List Str := ["yard", "row", "moves", "situations"]
theorem sc_sorts : FnScope n_sorts ["yard", "row", "moves"] (C8.fnScope s_sorts) := C8.fnScope_by (by decide +kernel)
abbrev n_turned_end : List Str := ["yard", "device", "ends", "end"]
theorem sc_turned_end : FnScope n_turned_end ["yard", "device", "ends", "end"] (C8.fnScope s_turned_end) := C8.fnScope_by (by decide +kernel)
abbrev n_turned_moves : List Str := ["yard", "moves", "numbers", "result", "source", "out", "target", "end", "new_out", "new_end"]
theorem sc_turned_moves : FnScope n_turned_moves ["yard", "moves"] (C8.fnScope s_turned_moves) := C8.fnScope_by (by decide +kernel)
abbrev n_turned_row : List Str := ["row", "count", "places", "wagon", "at"]
theorem sc_turned_row : FnScope n_turned_row ["row"] (C8.fnScope s_turned_row) := C8.fnScope_by (by decide +kernel)
abbrev n_law_number : List Str := ["_law_cell"]
theorem sc_law_number : FnScope n_law_number ["_law_cell"] (C8.fnScope s_law_number) := C8.fnScope_by (by decide +kernel)
abbrev n_law_draws : List Str := ["_law_script", "_law_draws_here", "_law_cell", "_law_rest", "_law_k", "_law_once", "_law_twice"]
theorem sc_law_draws : FnScope n_law_draws ["_law_script"] (C8.fnScope s_law_draws) := C8.fnScope_by (by decide +kernel)
abbrev n_law_next : List Str := ["_law_draws_here"]
theorem sc_law_next : FnScope n_law_next ["_law_draws_here"] (C8.fnScope s_law_next) := C8.fnScope_by (by decide +kernel)
abbrev n_law_tree : List Str := ["_law_draws_here", "_law_room", "_law_kind", "_law_letter", "_law_first", "_law_left"]
theorem sc_law_tree : FnScope n_law_tree ["_law_draws_here", "_law_room"] (C8.fnScope s_law_tree) := C8.fnScope_by (by decide +kernel)
abbrev n_law_told : List Str := ["_law_tree_here"]
theorem sc_law_told : FnScope n_law_told ["_law_tree_here"] (C8.fnScope s_law_told) := C8.fnScope_by (by decide +kernel)
abbrev n_law_net : List Str := ["_law_tree_here", "_law_first", "_law_one", "_law_two", "_law_links", "_law_out", "_law_entry"]
theorem sc_law_net : FnScope n_law_net ["_law_tree_here", "_law_first"] (C8.fnScope s_law_net) := C8.fnScope_by (by decide +kernel)
abbrev n_law_plan : List Str := ["_law_tree_here", "_law_net_here", "_law_links", "_law_entry", "_law_out"]
theorem sc_law_plan : FnScope n_law_plan ["_law_tree_here"] (C8.fnScope s_law_plan) := C8.fnScope_by (by decide +kernel)
abbrev n_law_row : List Str := ["_law_draws_here", "_law_size", "_law_row_here", "_law_wagon"]
theorem sc_law_row : FnScope n_law_row ["_law_draws_here", "_law_size"] (C8.fnScope s_law_row) := C8.fnScope_by (by decide +kernel)
abbrev n_law_drawn : List Str := ["_law_draws_here", "_law_most", "_law_tree_here", "_law_net_here", "_law_size"]
theorem sc_law_drawn : FnScope n_law_drawn ["_law_draws_here", "_law_most"] (C8.fnScope s_law_drawn) := C8.fnScope_by (by decide +kernel)
abbrev n_law_turned_row : List Str := ["_law_row_here", "_law_count", "_law_turned_one", "_law_place"]
theorem sc_law_turned_row : FnScope n_law_turned_row ["_law_row_here"] (C8.fnScope s_law_turned_row) := C8.fnScope_by (by decide +kernel)
abbrev n_law : List Str := ["_law_script", "_law_draws_here", "_law_tree_here", "_law_net_here", "_law_row_here", "_law_text", "_law_other", "_law_due", "_law_yard", "_law_mirror", "_law_way", "_law_back", "_law_moves_here"]
theorem sc_law : FnScope n_law ["_law_script"] (C8.fnScope s_law) := C8.fnScope_by (by decide +kernel)
abbrev BindT (x qual : Str) (st : Stmt) (ps : List Str) : Prop := ∀ (kV doc pm : Value) (an : Option Addr) (cdv ct : Value) (us : List Value), us.length = ps.length → bindArgs (PySem.W.fnOf x qual (C8.fnArgs st) (C8.fnBody st) (C8.fnScope st) .none kV doc pm an cdv ct) ⟨us, []⟩ = pure (ps.zip us)
theorem b_is_row : BindT "is_row" "is_row" s_is_row ["numbers"] := fun _ _ _ _ _ _ us hl => match us, hl with | [_], _ => rfl
theorem b_G_init : BindT "__init__" "Group.__init__" s_G_init ["self", "sign"] := fun _ _ _ _ _ _ us hl => match us, hl with | [_, _], _ => rfl
theorem b_R_init : BindT "__init__" "Reading.__init__" s_R_init ["self", "text"] := fun _ _ _ _ _ _ us hl => match us, hl with | [_, _], _ => rfl
theorem b_R_sign : BindT "sign" "Reading.sign" s_R_sign ["self"] := fun _ _ _ _ _ _ us hl => match us, hl with | [_], _ => rfl
theorem b_R_device : BindT "device" "Reading.device" s_R_device ["self"] := fun _ _ _ _ _ _ us hl => match us, hl with | [_], _ => rfl
theorem b_R_first_device : BindT "first_device" "Reading.first_device" s_R_first_device ["self"] := fun _ _ _ _ _ _ us hl => match us, hl with | [_], _ => rfl
theorem b_R_joined : BindT "joined" "Reading.joined" s_R_joined ["self", "group"] := fun _ _ _ _ _ _ us hl => match us, hl with | [_, _], _ => rfl
theorem b_R_closed : BindT "closed" "Reading.closed" s_R_closed ["self", "yard"] := fun _ _ _ _ _ _ us hl => match us, hl with | [_, _], _ => rfl
theorem b_R_whole : BindT "whole" "Reading.whole" s_R_whole ["self"] := fun _ _ _ _ _ _ us hl => match us, hl with | [_], _ => rfl
theorem b_Y_init : BindT "__init__" "Yard.__init__" s_Y_init ["self", "text"] := fun _ _ _ _ _ _ us hl => match us, hl with | [_, _], _ => rfl
theorem b_Y_len : BindT "__len__" "Yard.__len__" s_Y_len ["self"] := fun _ _ _ _ _ _ us hl => match us, hl with | [_], _ => rfl
theorem b_Y_ins : BindT "ins" "Yard.ins" s_Y_ins ["self", "device"] := fun _ _ _ _ _ _ us hl => match us, hl with | [_, _], _ => rfl
theorem b_Y_outs : BindT "outs" "Yard.outs" s_Y_outs ["self", "device"] := fun _ _ _ _ _ _ us hl => match us, hl with | [_, _], _ => rfl
theorem b_Y_room : BindT "room" "Yard.room" s_Y_room ["self", "device", "count"] := fun _ _ _ _ _ _ us hl => match us, hl with | [_, _, _], _ => rfl
theorem b_parts_of : BindT "parts_of" "parts_of" s_parts_of ["text"] := fun _ _ _ _ _ _ us hl => match us, hl with | [_], _ => rfl
theorem b_turned_part : BindT "turned_part" "turned_part" s_turned_part ["text"] := fun _ _ _ _ _ _ us hl => match us, hl with | [_], _ => rfl
theorem b_turned : BindT "turned" "turned" s_turned ["text"] := fun _ _ _ _ _ _ us hl => match us, hl with | [_], _ => rfl
theorem b_turned_order : BindT "turned_order" "turned_order" s_turned_order ["text", "first"] := fun _ _ _ _ _ _ us hl => match us, hl with | [_, _], _ => rfl
theorem b_turned_numbers : BindT "turned_numbers" "turned_numbers" s_turned_numbers ["text"] := fun _ _ _ _ _ _ us hl => match us, hl with | [_], _ => rfl
theorem b_check_row : BindT "check_row" "check_row" s_check_row ["row"] := fun _ _ _ _ _ _ us hl => match us, hl with | [_], _ => rfl
theorem b_first_situation : BindT "first_situation" "first_situation" s_first_situation ["yard", "row"] := fun _ _ _ _ _ _ us hl => match us, hl with | [_, _], _ => rfl
theorem b_source_ends : BindT "source_ends" "source_ends" s_source_ends ["yard", "row", "situation", "source"] := fun _ _ _ _ _ _ us hl => match us, hl with | [_, _, _, _], _ => rfl
theorem b_target_ends : BindT "target_ends" "target_ends" s_target_ends ["yard", "situation", "target"] := fun _ _ _ _ _ _ us hl => match us, hl with | [_, _, _], _ => rfl
theorem b_possible : BindT "possible" "possible" s_possible ["yard", "row", "situation"] := fun _ _ _ _ _ _ us hl => match us, hl with | [_, _, _], _ => rfl
theorem b_wagon_of : BindT "wagon_of" "wagon_of" s_wagon_of ["row", "situation", "move"] := fun _ _ _ _ _ _ us hl => match us, hl with | [_, _, _], _ => rfl
theorem b_after : BindT "after" "after" s_after ["row", "situation", "move"] := fun _ _ _ _ _ _ us hl => match us, hl with | [_, _, _], _ => rfl
theorem b_is_live : BindT "is_live" "is_live" s_is_live ["situation"] := fun _ _ _ _ _ _ us hl => match us, hl with | [_], _ => rfl
theorem b_S_init : BindT "__init__" "Search.__init__" s_S_init ["self", "yard", "row", "situation"] := fun _ _ _ _ _ _ us hl => match us, hl with | [_, _, _, _], _ => rfl
theorem b_S_is_goal : BindT "is_goal" "Search.is_goal" s_S_is_goal ["self", "situation"] := fun _ _ _ _ _ _ us hl => match us, hl with | [_, _], _ => rfl
theorem b_S_look : BindT "look" "Search.look" s_S_look ["self", "index"] := fun _ _ _ _ _ _ us hl => match us, hl with | [_, _], _ => rfl
theorem b_S_finish : BindT "finish" "Search.finish" s_S_finish ["self"] := fun _ _ _ _ _ _ us hl => match us, hl with | [_], _ => rfl
theorem b_S_way : BindT "way" "Search.way" s_S_way ["self"] := fun _ _ _ _ _ _ us hl => match us, hl with | [_], _ => rfl
theorem b_search_from : BindT "search_from" "search_from" s_search_from ["yard", "row", "situation"] := fun _ _ _ _ _ _ us hl => match us, hl with | [_, _, _], _ => rfl
theorem b_solve : BindT "solve" "solve" s_solve ["yard", "row"] := fun _ _ _ _ _ _ us hl => match us, hl with | [_, _], _ => rfl
theorem b_fewest : BindT "fewest" "fewest" s_fewest ["yard", "row"] := fun _ _ _ _ _ _ us hl => match us, hl with | [_, _], _ => rfl
theorem b_replay : BindT "replay" "replay" s_replay ["yard", "row", "moves"] := fun _ _ _ _ _ _ us hl => match us, hl with | [_, _, _], _ => rfl
theorem b_sorts : BindT "sorts" "sorts" s_sorts ["yard", "row", "moves"] := fun _ _ _ _ _ _ us hl => match us, hl with | [_, _, _], _ => rfl
theorem b_turned_end : BindT "turned_end" "turned_end" s_turned_end ["yard", "device", "ends", "end"] := fun _ _ _ _ _ _ us hl => match us, hl with | [_, _, _, _], _ => rfl
theorem b_turned_moves : BindT "turned_moves" "turned_moves" s_turned_moves ["yard", "moves"] := fun _ _ _ _ _ _ us hl => match us, hl with | [_, _], _ => rfl
theorem b_turned_row : BindT "turned_row" "turned_row" s_turned_row ["row"] := fun _ _ _ _ _ _ us hl => match us, hl with | [_], _ => rfl
theorem b_law_number : BindT "_law_number" "_law_number" s_law_number ["_law_cell"] := fun _ _ _ _ _ _ us hl => match us, hl with | [_], _ => rfl
theorem b_law_draws : BindT "_law_draws" "_law_draws" s_law_draws ["_law_script"] := fun _ _ _ _ _ _ us hl => match us, hl with | [_], _ => rfl
theorem b_law_next : BindT "_law_next" "_law_next" s_law_next ["_law_draws_here"] := fun _ _ _ _ _ _ us hl => match us, hl with | [_], _ => rfl
theorem b_law_tree : BindT "_law_tree" "_law_tree" s_law_tree ["_law_draws_here", "_law_room"] := fun _ _ _ _ _ _ us hl => match us, hl with | [_, _], _ => rfl
theorem b_law_told : BindT "_law_told" "_law_told" s_law_told ["_law_tree_here"] := fun _ _ _ _ _ _ us hl => match us, hl with | [_], _ => rfl
theorem b_law_net : BindT "_law_net" "_law_net" s_law_net ["_law_tree_here", "_law_first"] := fun _ _ _ _ _ _ us hl => match us, hl with | [_, _], _ => rfl
theorem b_law_plan : BindT "_law_plan" "_law_plan" s_law_plan ["_law_tree_here"] := fun _ _ _ _ _ _ us hl => match us, hl with | [_], _ => rfl
theorem b_law_row : BindT "_law_row" "_law_row" s_law_row ["_law_draws_here", "_law_size"] := fun _ _ _ _ _ _ us hl => match us, hl with | [_, _], _ => rfl
theorem b_law_drawn : BindT "_law_drawn" "_law_drawn" s_law_drawn ["_law_draws_here", "_law_most"] := fun _ _ _ _ _ _ us hl => match us, hl with | [_, _], _ => rfl
theorem b_law_turned_row : BindT "_law_turned_row" "_law_turned_row" s_law_turned_row ["_law_row_here"] := fun _ _ _ _ _ _ us hl => match us, hl with | [_], _ => rfl
theorem b_law : BindT "law" "law" s_law ["_law_script"] := fun _ _ _ _ _ _ us hl => match us, hl with | [_], _ => rfl
/-- a def, a method, an __init__, as they stand behind the top -/
abbrev IsDef (K : PySem.W.Frag) (mg : Str → Option Value) (x : Str) (st : Stmt) : Prop := ∃ (f : Addr) (fd : FuncData), C8.Def K mg x st f fd ∧ fd.defaults = .none
abbrev IsMeth (K : PySem.W.Frag) (C : Addr) (m qual : Str) (st : Stmt) : Prop := ∃ (f : Addr) (fd : FuncData), Meth K C m f ∧ C8.Fun K m qual st f fd ∧ fd.defaults = .none
abbrev IsInit (K : PySem.W.Frag) (C : Addr) (qual : Str) (st : Stmt) : Prop := ∃ (f : Addr) (fd : FuncData), Mk K C f ∧ C8.Fun K "__init__" qual st f fd ∧ fd.defaults = .none
/-- a name of the module that holds v -/
abbrev Glob (mg : Str → Option Value) (x : Str) (v : V) : Prop := ∃ u, mg x = some u ∧ RelV v u
/-- a table of the module: text keys, each with what is asked of its value -/
abbrev IsTab (K : PySem.W.Frag) (w : World) (mg : Str → Option Value) (x : Str) (d : Addr) : Prop := mg x = some (.ref d) ∧ ∃ es n, KDict K w d es n
abbrev TabTup (K : PySem.W.Frag) (d : Addr) (k : Str) (vs : List Int) : Prop := ∃ t, PySem.W.nsIn K d k = some (some (.ref t)) ∧ ∀ H, SqT K H t (vs.map V.int)
abbrev TabStr (K : PySem.W.Frag) (d : Addr) (k z : Str) : Prop := ∃ t, PySem.W.nsIn K d k = some (some (.str z t))
structure Txt (K : PySem.W.Frag) (w : World) (mg : Str → Option Value) (CG CR CY CS dI dO dT dC : Addr) : Prop where
  d_is_row : IsDef K mg "is_row" s_is_row
  d_G_init : IsInit K CG "Group.__init__" s_G_init
  d_R_init : IsInit K CR "Reading.__init__" s_R_init
  d_R_sign : IsMeth K CR "sign" "Reading.sign" s_R_sign
  d_R_device : IsMeth K CR "device" "Reading.device" s_R_device
  d_R_first_device : IsMeth K CR "first_device" "Reading.first_device" s_R_first_device
  d_R_joined : IsMeth K CR "joined" "Reading.joined" s_R_joined
  d_R_closed : IsMeth K CR "closed" "Reading.closed" s_R_closed
  d_R_whole : IsMeth K CR "whole" "Reading.whole" s_R_whole
  d_Y_init : IsInit K CY "Yard.__init__" s_Y_init
  d_Y_len : IsMeth K CY "__len__" "Yard.__len__" s_Y_len
  d_Y_ins : IsMeth K CY "ins" "Yard.ins" s_Y_ins
  d_Y_outs : IsMeth K CY "outs" "Yard.outs" s_Y_outs
  d_Y_room : IsMeth K CY "room" "Yard.room" s_Y_room
  d_parts_of : IsDef K mg "parts_of" s_parts_of
  d_turned_part : IsDef K mg "turned_part" s_turned_part
  d_turned : IsDef K mg "turned" s_turned
  d_turned_order : IsDef K mg "turned_order" s_turned_order
  d_turned_numbers : IsDef K mg "turned_numbers" s_turned_numbers
  d_check_row : IsDef K mg "check_row" s_check_row
  d_first_situation : IsDef K mg "first_situation" s_first_situation
  d_source_ends : IsDef K mg "source_ends" s_source_ends
  d_target_ends : IsDef K mg "target_ends" s_target_ends
  d_possible : IsDef K mg "possible" s_possible
  d_wagon_of : IsDef K mg "wagon_of" s_wagon_of
  d_after : IsDef K mg "after" s_after
  d_is_live : IsDef K mg "is_live" s_is_live
  d_S_init : IsInit K CS "Search.__init__" s_S_init
  d_S_is_goal : IsMeth K CS "is_goal" "Search.is_goal" s_S_is_goal
  d_S_look : IsMeth K CS "look" "Search.look" s_S_look
  d_S_finish : IsMeth K CS "finish" "Search.finish" s_S_finish
  d_S_way : IsMeth K CS "way" "Search.way" s_S_way
  d_search_from : IsDef K mg "search_from" s_search_from
  d_solve : IsDef K mg "solve" s_solve
  d_fewest : IsDef K mg "fewest" s_fewest
  d_replay : IsDef K mg "replay" s_replay
  d_sorts : IsDef K mg "sorts" s_sorts
  d_turned_end : IsDef K mg "turned_end" s_turned_end
  d_turned_moves : IsDef K mg "turned_moves" s_turned_moves
  d_turned_row : IsDef K mg "turned_row" s_turned_row
  d_law_number : IsDef K mg "_law_number" s_law_number
  d_law_draws : IsDef K mg "_law_draws" s_law_draws
  d_law_next : IsDef K mg "_law_next" s_law_next
  d_law_tree : IsDef K mg "_law_tree" s_law_tree
  d_law_told : IsDef K mg "_law_told" s_law_told
  d_law_net : IsDef K mg "_law_net" s_law_net
  d_law_plan : IsDef K mg "_law_plan" s_law_plan
  d_law_row : IsDef K mg "_law_row" s_law_row
  d_law_drawn : IsDef K mg "_law_drawn" s_law_drawn
  d_law_turned_row : IsDef K mg "_law_turned_row" s_law_turned_row
  d_law : IsDef K mg "law" s_law
  c_G : Cls K CG
  g_G : mg "Group" = some (.ref CG)
  a_G_sign : NoAttr K CG "sign"
  a_G_yards : NoAttr K CG "yards"
  c_R : Cls K CR
  g_R : mg "Reading" = some (.ref CR)
  a_R_text : NoAttr K CR "text"
  a_R_at : NoAttr K CR "at"
  a_R_kinds : NoAttr K CR "kinds"
  a_R_bounds : NoAttr K CR "bounds"
  a_R_links : NoAttr K CR "links"
  a_R_groups : NoAttr K CR "groups"
  c_Y : Cls K CY
  g_Y : mg "Yard" = some (.ref CY)
  a_Y_text : NoAttr K CY "text"
  a_Y_kinds : NoAttr K CY "kinds"
  a_Y_bounds : NoAttr K CY "bounds"
  a_Y_links : NoAttr K CY "links"
  c_S : Cls K CS
  g_S : mg "Search" = some (.ref CS)
  a_S_yard : NoAttr K CS "yard"
  a_S_wagons : NoAttr K CS "wagons"
  a_S_met : NoAttr K CS "met"
  a_S_known : NoAttr K CS "known"
  a_S_origin : NoAttr K CS "origin"
  a_S_found : NoAttr K CS "found"
  v_MOST_rows : Glob mg "MOST_rows" (.int 60)
  v_MOST_yards : Glob mg "MOST_yards" (.int 8)
  v_LEFT : Glob mg "LEFT" (.int 0)
  v_OUTSIDE : Glob mg "OUTSIDE" (.int (-1))
  v_MOST_SITUATIONS : Glob mg "MOST_SITUATIONS" (.int 4000)
  v_KINDS : Glob mg "KINDS" (.str "sqdio")
  v_BOUNDS : Glob mg "BOUNDS" (.str "123456")
  z_len : mg "len" = none
  z_sorted : mg "sorted" = none
  z_list : mg "list" = none
  z_range : mg "range" = none
  z_tuple : mg "tuple" = none
  z_enumerate : mg "enumerate" = none
  z_int : mg "int" = none
  z_str : mg "str" = none
  z_min : mg "min" = none
  t_INS : IsTab K w mg "INS" dI
  t_OUTS : IsTab K w mg "OUTS" dO
  t_TURNED : IsTab K w mg "TURNED" dT
  t_CLOSING : IsTab K w mg "CLOSING" dC
  i_s : TabTup K dI "s" [1]
  o_s : TabTup K dO "s" [1]
  u_s : TabStr K dT "s" "s"
  i_q : TabTup K dI "q" [1]
  o_q : TabTup K dO "q" [0]
  u_q : TabStr K dT "q" "q"
  i_d : TabTup K dI "d" [0, 1]
  o_d : TabTup K dO "d" [0, 1]
  u_d : TabStr K dT "d" "d"
  i_i : TabTup K dI "i" [1]
  o_i : TabTup K dO "i" [0, 1]
  u_i : TabStr K dT "i" "o"
  i_o : TabTup K dI "o" [0, 1]
  o_o : TabTup K dO "o" [1]
  u_o : TabStr K dT "o" "i"
  k_par : TabStr K dC "(" ")"
  k_bra : TabStr K dC "[" "]"
  k_no : ∀ z : Str, z ≠ "(" → z ≠ "[" → PySem.W.nsIn K dC z = some none
end YW
namespace YW
open PySem PySem.Spec PyProof.Rows L2
/-! ### rules of our own -/
section
variable {X : Cx}
/-- table[key], a written table -/
def rTab (K : PySem.W.Frag) (d : Addr) : R2 := fun x y H Q => ∃ (z : Str) (u0 : Value) (v0 : V), x = .ref d ∧ y = .str z ∧ PySem.W.nsIn K d z = some (some u0) ∧ RelV v0 u0 ∧ Q v0 H
theorem ix_tab {d : Addr} {es : Array DictEntry} {n : Nat} (D : KDict X.K X.w d es n) : IxR X (rTab X.K d) := by
  intro value slice pins s σ H x y v u Q I rx ry h hs
  obtain ⟨z, u0, v0, rfl, rfl, e, r, q⟩ := h
  cases rx
  obtain ⟨t, rfl⟩ := ry
  exact tail_any (kd_type D I) PySem.F.slot_dict_getitem.lookup (op_item_kd D pins s σ H (.ref d) (.str z) _ _ Q I rfl ⟨t, rfl⟩ ⟨z, u0, v0, rfl, rfl, e, r, q⟩) hs
/-- key in table -/
def rInTab (K : PySem.W.Frag) (d : Addr) : R2 := fun x y H Q => ∃ (z : Str) (r : Option Value), x = .str z ∧ y = .ref d ∧ PySem.W.nsIn K d z = some r ∧ Q (.bl r.isSome) H
theorem op_inTab {d : Addr} {es : Array DictEntry} {n : Nat} (D : KDict X.K X.w d es n) : OpR X (compareOp .In) (rInTab X.K d) := op_in_kd D
def rNotInTab (K : PySem.W.Frag) (d : Addr) : R2 := fun x y H Q => ∃ (z : Str) (r : Option Value), x = .str z ∧ y = .ref d ∧ PySem.W.nsIn K d z = some r ∧ Q (.bl (!r.isSome)) H
theorem op_notInTab {d : Addr} {es : Array DictEntry} {n : Nat} (D : KDict X.K X.w d es n) : OpR X (compareOp .NotIn) (rNotInTab X.K d) := op_notIn_kd D
/-- len(o), o an instance of a class of the text with its own __len__ -/
def rLenOwn (C : Addr) (sp : Sp) (E : XK) : List V → Hp → VK → Prop := fun xs H Q => ∃ (a dx : Addr) (fs : List (Str × V)), xs = [V.ref a] ∧ H a = some (.ins C dx fs) ∧ sp [.ref a] H (fun z H' => ∃ i : Int, z = .int i ∧ (0 ≤ i ∧ i < 2 ^ 63) ∧ Q (.int i) H') E
theorem call_lenOwn {CX : CXT} {n : Nat} {C g : Addr} {sp : Sp} {E : XK} (hs : PySem.W.findIn X.K (.ref C) "__len__" = some (some (.ref g))) (hf : PySem.W.isFn X.K (.ref g) = true) (F : FnR X.prog X.w X.K X.mg X.base CX n g sp) (hr : Room (n + 1) X.A) (hx : Passes CX X E) :
    CallR X (.builtin "len") (rLenOwn C sp E) := by
  intro pins s σ H xs us Q I r h
  obtain ⟨a, dx, fs, rfl, ha, q⟩ := h
  obtain ⟨u, rfl, ru⟩ := vals1 r
  cases (show u = Value.ref a from ru)
  obtain ⟨mA, M, _, _, _, _⟩ := ins_get I.hok ha
  obtain ⟨od, J, _⟩ := M.look
  obtain ⟨m, hF⟩ := I.fr
  refine PySem.W.len_K hF I.ok.mod.kin J hs hf (wpAny_mono (wpAny_call (SlX.run_at (us := [.ref a]) (ws := [.ref a]) F hr.in1 I.env0.in1 hx I (.cons rfl .nil) q)) (fun w' s' z => ?_) fun _ _ x => x)
  obtain ⟨z', H', I', rz, i, ei, hb, qz⟩ := z
  subst ei
  obtain ⟨t, e⟩ := (show ∃ t, w' = Value.int i t from rz)
  cases e
  exact ⟨hb, .int i, H', I'.tok _, ⟨_, rfl⟩, qz⟩
end
/-! ### enumerate(text) -/
def Ites (x : Str) : It :=
  ⟨fun i _ => i < x.cps.size, fun i H v H' => ∃ (T : Addr) (c : Nat), v = .ref T ∧ H T = none ∧ H' = upd H T (.tup [.int (i : Nat), .str ⟨#[c]⟩]) ∧ x.cps[i]? = some c, fun i _ => x.cps.size ≤ i⟩
theorem turn_enumS {P : Program} {w : World} {K : PySem.W.Frag} {elts : List Expr} {kk : Nat} {tpos : Pos} (x : Str) (t : Tok) (e it : Addr) :
    Turn P w K (.Tuple elts kk tpos) (Ites x) [e, it] e (fun i h => (∃ old, IsEnum h e it ((i : Nat) : Int) old) ∧ (i ≤ x.cps.size ∧ h.IsStrIter it (strIterType x) x t i) ∧ e ≠ it) where
  mem := by simp
  obj := fun i h st b hb => by
    obtain ⟨⟨old, he⟩, ⟨_, o, ho, hc, hd⟩, _⟩ := st
    have e' : b = e ∨ b = it := by simpa using hb
    rcases e' with z | z
    · rw [z]; exact ⟨_, he, fun v q => nomatch q⟩
    · rw [z]; exact ⟨o, ho, fun v q => by rw [hd] at q; cases q⟩
  keep := fun i h h' st k => let ⟨⟨old, he⟩, ⟨hi0, o, ho, r⟩, hne⟩ := st; ⟨⟨old, k e (by simp) _ he⟩, ⟨hi0, o, k it (by simp) o ho, r⟩, hne⟩
  item := by
    intro X hP hw hK hc i pins s σ H E I hf st hg
    subst hP hw hK
    obtain ⟨⟨old, he⟩, ⟨hi0, hit⟩, hne⟩ := st
    have D := Draws.text (prog := X.prog) (w := X.w) (A := X.A.in1) (I.ok.hd hc) it x t
    have hel : e < s.heap.objs.size := Heap.lt_size he
    have hil : it < s.heap.objs.size := by obtain ⟨_, q, _⟩ := hit; exact Heap.lt_size q
    refine wpAny_pyNext_enum_itemD D he hit hg hne (by simpa using hne) fun u h' tk hu ho hit' hT hsz hk => ?_
    obtain ⟨c, tc, hc', rfl⟩ := hu
    refine ⟨_, rfl, wpAny_letOwnedTupleGo_enum (s := { s with heap := h', toks := tk + 1 }) ho fun h'' he' sb => ?_⟩
    have hT2 : h''.get? s.heap.objs.size = some { cls := .type "tuple", data := .seq #[.int i tk, .str ⟨#[c]⟩ tc] } := (sb.2 _ (Nat.ne_of_gt hel)).trans hT
    have new : ObjOk X.prog X.w (upd H s.heap.objs.size (.tup [.int (i : Nat), .str ⟨#[c]⟩])) h'' s.heap.objs.size (.tup [.int (i : Nat), .str ⟨#[c]⟩]) :=
      ⟨by show 2 ≤ sizeLine; decide, [.int i tk, .str ⟨#[c]⟩ tc], .cons ⟨_, rfl⟩ (.cons ⟨_, rfl⟩ .nil), ⟨_, hT2, rfl, _, rfl⟩⟩
    have I1 : Inv X pins σ (upd H s.heap.objs.size (.tup [.int (i : Nat), .str ⟨#[c]⟩])) { s with heap := h'', toks := tk + 1 } :=
      I.turnedNew (ch := [e, it]) (fun b ob hb q => (sb.2 b (fun z => hb (by simp [z]))).trans (hk b ob (fun z => hb (by simp [z])) (fun z => hb (by simp [z])) q)) hf (Nat.le_refl _) new
    refine ⟨.ref s.heap.objs.size, _, I1, rfl, ⟨_, c, rfl, I.hok.fresh (Nat.le_refl _), rfl, hc'⟩, ⟨⟨.str ⟨#[c]⟩ tc, ?_⟩, ⟨hg, ?_⟩, hne⟩, fun b hb => ?_⟩
    · have e1 : ((i + 1 : Nat) : Int) = (i : Int) + 1 := by omega
      rw [e1]; exact he'
    · obtain ⟨o, ho', r⟩ := hit'
      exact ⟨o, (sb.2 it (Ne.symm hne)).trans ho', r⟩
    · have hb' : b < s.heap.objs.size := by
        have e' : b = e ∨ b = it := by simpa using hb
        rcases e' with z | z
        · rw [z]; exact hel
        · rw [z]; exact hil
      rw [upd_ne (Nat.ne_of_lt hb')]
      exact (hf b hb).1
  done := by
    intro X hP hw hK hc i pins s σ H E I hf st hg
    subst hP hw hK
    obtain ⟨⟨old, he⟩, ⟨hi0, hit⟩, hne⟩ := st
    obtain ⟨f0, f1, f2, f3, f4, f5⟩ := hf it (by simp)
    have ei : i = x.cps.size := Nat.le_antisymm hi0 hg
    subst ei
    have D := Draws.text (prog := X.prog) (w := X.w) (A := X.A.in1) (I.ok.hd hc) it x t
    exact wpAny_pyNext_enum_endD D he hit fun h' eb => ⟨rfl, I.turned (t' := s.toks) (fun b o hb q => eb b o hb q) f0 f1 f3 f4 f5⟩
  self := fun A i s Q E st h => let ⟨⟨_, he⟩, _⟩ := st; wpAny_pyIter_enum he h
def iEnumS (ta : TA) : TI := fun σ H R => ta σ H fun vs H1 => ∃ x, vs = [.str x] ∧ R (Ites x) H1
theorem pi_enumS {X : Cx} {e : Expr} {ta : TA} {p pos tpos : Pos} {elts : List Expr} {kk : Nat} (hg : Gl X "enumerate") (hm : X.mg "enumerate" = none) (ha : PA X [e] ta) (hs : starEach [e] X.env = [(false, eval e X.env)] := by rfl) :
    PI X (.Tuple elts kk tpos) (.Call (.Name "enumerate" p) [e] [] pos) (iEnumS ta) := by
  refine ⟨fun pins s σ H R I h => ?_⟩
  refine Call_ (ld_blt I hg hm boot_enumerate (PyProof.Rows.callWith_type1 (thn (ha.run pos pins s σ H _ I h) fun us s1 ⟨vs, H1, I1, r1, q1⟩ => ?_) hs rfl))
  obtain ⟨x, ex, q⟩ := q1
  subst ex
  obtain ⟨u, rfl, ru⟩ := vals1 r1
  obtain ⟨t, rfl⟩ := ru
  refine call_enumerate_str fun h' he hit hsz hk => wpAny_pyIter_enum he ?_
  have I2 : Inv X pins σ H1 { s1 with heap := h' } := I1.kept (t' := s1.toks) hk
  refine ⟨s1.heap.objs.size + 1, [s1.heap.objs.size + 1, s1.heap.objs.size], _, _, H1, rfl, I2, turn_enumS x t (s1.heap.objs.size + 1) s1.heap.objs.size, ⟨⟨.none, he⟩, ⟨Nat.zero_le _, hit⟩, Nat.succ_ne_self _⟩, fun b hb => ?_, q⟩
  have e' : b = s1.heap.objs.size + 1 ∨ b = s1.heap.objs.size := by simpa using hb
  have hle : s1.heap.objs.size ≤ b := by
    rcases e' with z | z
    · rw [z]; exact Nat.le_add_right _ _
    · rw [z]; exact Nat.le_refl _
  exact I1.fpOk hle (I1.hok.fresh hle)
/-- a loop over enumerate(text) -/
theorem for_enumS {x : Str} {g : TG} {tb : TS} {σ0 : L2.St} {H0 : Hp} {D : Ends} (Pv : Nat → L2.St → Hp → Prop) (h0 : Pv 0 σ0 H0)
    (hs : ∀ (i : Nat) (c : Nat) (T : Addr) (σ : L2.St) (H : Hp), x.cps[i]? = some c → Pv i σ H → H T = none → g (.ref T) σ (upd H T (.tup [.int (i : Nat), .str ⟨#[c]⟩])) fun σ2 H2 => tb { D with nx := Pv (i + 1), ct := Pv (i + 1), bk := D.nx } σ2 H2)
    (hd : ∀ σ H, Pv x.cps.size σ H → D.nx σ H) :
    ∃ W : Nat → Nat → L2.St → Hp → Prop, (∃ m, W 0 m σ0 H0) ∧ ∀ i m σ H, W i m σ H →
      ((Ites x).stop i H ∧ D.nx σ H) ∨ ((Ites x).go i H ∧ ∃ N : L2.St → Hp → Prop, (∀ σ' H', N σ' H' → ∃ m', m' < m ∧ W (i + 1) m' σ' H') ∧
        ∀ v H', (Ites x).yld i H v H' → g v σ H' fun σ2 H2 => tb { D with nx := N, ct := N, bk := D.nx } σ2 H2) := by
  refine ⟨fun i m σ H => m = x.cps.size - i ∧ i ≤ x.cps.size ∧ Pv i σ H, ⟨x.cps.size, by simp, Nat.zero_le _, h0⟩, ?_⟩
  rintro i m σ H ⟨rfl, hi, p⟩
  by_cases hlt : i < x.cps.size
  · refine .inr ⟨hlt, Pv (i + 1), fun σ' H' p' => ⟨x.cps.size - (i + 1), by omega, rfl, hlt, p'⟩, fun v H' y => ?_⟩
    obtain ⟨T, c, rfl, hT, rfl, hc⟩ := y
    exact hs i c T σ H hc p hT
  · have e : i = x.cps.size := by omega
    subst e
    exact .inl ⟨Nat.le_refl _, hd σ H p⟩
end YW
namespace YW
open PySem PySem.Spec PyProof.Rows L2
/-! ### data in the heap -/
def TupIs (H : Hp) (v : V) (xs : List V) : Prop := ∃ a, v = .ref a ∧ H a = some (.tup xs)
def IntsAt (H : Hp) (v : V) (ns : List Int) : Prop := TupIs H v (ns.map V.int)
def HeldAt (H : Hp) (hs : List V) (held : List (List Int)) : Prop := Paired (IntsAt H) hs held
def SitAt (H : Hp) (v : V) (s : YM.Sit) : Prop := ∃ (a b c : Addr) (hs : List V), v = .ref a ∧ H a = some (.tup [.int (s.came : Nat), .ref b, .ref c]) ∧ H b = some (.tup hs) ∧ HeldAt H hs s.held ∧ H c = some (.tup (s.gone.map V.int))
def MvAt (H : Hp) (v : V) (m : YM.Mv) : Prop := TupIs H v [.int m.1, .int m.2.1, .int m.2.2.1, .int m.2.2.2]
/-- tuples stay -/
def KeepT (H H' : Hp) : Prop := ∀ a xs, H a = some (.tup xs) → H' a = some (.tup xs)
theorem KeepT.refl (H : Hp) : KeepT H H := fun _ _ h => h
theorem KeepT.trans {H H1 H2 : Hp} (a : KeepT H H1) (b : KeepT H1 H2) : KeepT H H2 := fun x xs h => b x xs (a x xs h)
theorem Same.keepT {H H' : Hp} (s : Same H H') : KeepT H H' := fun a xs h => s a _ h
theorem KeepT.new {H : Hp} {p : Addr} {o : HO} (h : H p = none) : KeepT H (upd H p o) := fun a xs e => by
  rw [upd_ne (ne_of_none e h)]
  exact e
theorem KeepT.put {H : Hp} {p : Addr} {o u : HO} (h : H p = some u) (hn : ∀ xs, u ≠ .tup xs) : KeepT H (upd H p o) := fun a xs e => by
  rw [upd_ne (ne_of e h fun q => hn xs q.symm)]
  exact e
theorem Same.new {H : Hp} {p : Addr} {o : HO} (h : H p = none) : Same H (upd H p o) := fun a u e => by
  rw [upd_ne (ne_of_none e h)]
  exact e
theorem TupIs.keep {H H' : Hp} (k : KeepT H H') {v : V} {xs : List V} (h : TupIs H v xs) : TupIs H' v xs := let ⟨a, e, q⟩ := h; ⟨a, e, k _ _ q⟩
theorem IntsAt.keep {H H' : Hp} (k : KeepT H H') {v : V} {xs : List Int} (h : IntsAt H v xs) : IntsAt H' v xs := TupIs.keep k h
theorem HeldAt.keep {H H' : Hp} (k : KeepT H H') {hs : List V} {held : List (List Int)} (h : HeldAt H hs held) : HeldAt H' hs held := Paired.mapP h fun _ _ q => q.keep k
theorem SitAt.keep {H H' : Hp} (k : KeepT H H') {v : V} {s : YM.Sit} (h : SitAt H v s) : SitAt H' v s := by
  obtain ⟨a, b, c, hs, e, h1, h2, h3, h4⟩ := h
  exact ⟨a, b, c, hs, e, k _ _ h1, k _ _ h2, h3.keep k, k _ _ h4⟩
theorem MvAt.keep {H H' : Hp} (k : KeepT H H') {v : V} {m : YM.Mv} (h : MvAt H v m) : MvAt H' v m := TupIs.keep k h
theorem TupIs.sq {K : PySem.W.Frag} {H : Hp} {a : Addr} {xs : List V} (h : TupIs H (.ref a) xs) : SqT K H a xs := by
  obtain ⟨b, e, q⟩ := h
  cases e
  exact SqT.of q
/-! ### a dict whose keys are situations -/
abbrev NK := PySem.NestedKey
def nkL (l : List Int) : NK := .tup (l.map NestedKey.num)
def nkS (s : YM.Sit) : NK := .tup [.num (s.came : Nat), .tup (s.held.map nkL), nkL s.gone]
theorem num_inj : ∀ {a b : List Int}, a.map NestedKey.num = b.map NestedKey.num → a = b
  | [], [], _ => rfl
  | [], _ :: _, h => by cases h
  | _ :: _, [], h => by cases h
  | x :: a, y :: b, h => by
    injection h with h1 h2
    cases h1
    rw [num_inj h2]
theorem nkL_inj {a b : List Int} (h : nkL a = nkL b) : a = b := by
  injection h with h
  exact num_inj h
theorem held_inj : ∀ {a b : List (List Int)}, a.map nkL = b.map nkL → a = b
  | [], [], _ => rfl
  | [], _ :: _, h => by cases h
  | _ :: _, [], h => by cases h
  | x :: a, y :: b, h => by
    injection h with h1 h2
    rw [nkL_inj h1, held_inj h2]
theorem nkS_inj {s t : YM.Sit} (h : nkS s = nkS t) : s = t := by
  obtain ⟨c, hd, g⟩ := s
  obtain ⟨c', hd', g'⟩ := t
  injection h with h
  injection h with h1 h
  injection h with h2 h
  injection h with h3 h
  injection h1 with h1
  injection h2 with h2
  have e1 : c = c' := Int.ofNat.inj h1
  have e2 := held_inj h2
  have e3 := nkL_inj h3
  subst e1 e2 e3
  rfl
section
variable {P : Program} {w : World} {H : Hp} {h : Heap}
theorem nall_ints : ∀ {ns : List Int} {us : List Value}, Vals (ns.map V.int) us → NestedAll h (ns.map NestedKey.num) us
  | [], _, r => by
    cases r
    exact .nil
  | n :: ns, _, r => by
    cases r with
    | cons r rr =>
      obtain ⟨t, rfl⟩ := r
      exact .cons (.int n t) (nall_ints rr)
theorem nis_ints (ok : HOk P w H h) {a : Addr} {ns : List Int} (e : H a = some (.tup (ns.map V.int))) : NestedIs h (nkL ns) (.ref a) := by
  obtain ⟨_, its, r, o, h1, h2, n, h3⟩ := (show ObjOk P w H h a (.tup (ns.map V.int)) from ok a _ e)
  exact .tup h1 h2 h3 (by simpa using nall_ints r)
theorem nall_held (ok : HOk P w H h) : ∀ {hs : List V} {held : List (List Int)} {us : List Value}, HeldAt H hs held → Vals hs us → NestedAll h (held.map nkL) us
  | _, _, _, .nil, r => by
    cases r
    exact .nil
  | _, _, _, .cons q t, r => by
    cases r with
    | cons r rr =>
      obtain ⟨a, rfl, e⟩ := q
      cases r
      exact .cons (nis_ints ok e) (nall_held ok t rr)
theorem depth_ints : ∀ l : List Int, NestedKey.depthAll (l.map NestedKey.num) = 0
  | [] => rfl
  | x :: l => by
    have := depth_ints l
    simp only [List.map_cons, NestedKey.depthAll, NestedKey.depth, this]
    rfl
theorem depth_nkL (l : List Int) : (nkL l).depth ≤ 2 := by
  unfold nkL
  simp only [NestedKey.depth, depth_ints]
  omega
theorem depth_held : ∀ l : List (List Int), NestedKey.depthAll (l.map nkL) ≤ 2
  | [] => by simp [NestedKey.depthAll]
  | x :: l => by
    have h1 := depth_held l
    have h2 := depth_nkL x
    simp only [List.map_cons, NestedKey.depthAll]
    omega
theorem depth_nkS (s : YM.Sit) : (nkS s).depth ≤ 8 := by
  have h1 := depth_held s.held
  have h2 := depth_nkL s.gone
  unfold nkS
  simp only [NestedKey.depth, NestedKey.depthAll]
  omega
theorem sit_key (ok : HOk P w H h) {a : Addr} {s : YM.Sit} (e : SitAt H (.ref a) s) : (nestedKind P w).is h (nkS s) a := by
  obtain ⟨a', b, c, hs, ea, h1, h2, h3, h4⟩ := e
  cases ea
  refine ⟨?_, depth_nkS s⟩
  obtain ⟨_, its, r, o, q1, q2, n, q3⟩ := (show ObjOk P w H h a (.tup [.int (s.came : Nat), .ref b, .ref c]) from ok a _ h1)
  refine .tup q1 q2 q3 ?_
  have r' : Vals [V.int (s.came : Nat), .ref b, .ref c] its.toArray.toList := by simpa using r
  generalize its.toArray.toList = us at r'
  cases r' with
  | cons r1 r' =>
    cases r' with
    | cons r2 r' =>
      cases r' with
      | cons r3 r' =>
        cases r'
        obtain ⟨t, rfl⟩ := r1
        cases r2
        cases r3
        refine .cons (.int _ t) (.cons ?_ (.cons (nis_ints ok h4) .nil))
        obtain ⟨_, its2, rr, o2, p1, p2, n2, p3⟩ := (show ObjOk P w H h b (.tup hs) from ok b _ h2)
        exact .tup p1 p2 p3 (by simpa using nall_held ok h3 rr)
end
/-- the entries: each situation, its tuple's address -/
abbrev Ents := List (YM.Sit × Addr)
def entsX (L : Ents) : List (NK × Addr × Value) := L.map fun p => (nkS p.1, p.2, Value.bool true)
/-- the object: a dict with these entries -/
def KD (P : Program) (w : World) (a : Addr) (L : Ents) : HO :=
  .ext fun h => (a == sysModules) = false ∧ L.length ≤ sizeLine ∧ ∃ o es ep, h.get? a = some o ∧ o.ExactDict ∧ o.data = .dict es ep ∧ es.toList = (entsX L).map (entryOfKey (nestedKind P w)) ∧ ((entsX L).map (·.1)).Nodup
theorem kd_ok {P : Program} {w : World} {H : Hp} {h : Heap} {a : Addr} {L : Ents} (h0 : (a == sysModules) = false) (hl : L.length ≤ sizeLine) {o : Obj} {es : Array DictEntry} {ep : Nat} (h1 : h.get? a = some o) (h2 : o.ExactDict) (h3 : o.data = .dict es ep)
    (h4 : es.toList = (entsX L).map (entryOfKey (nestedKind P w))) (h5 : ((entsX L).map (·.1)).Nodup) : ObjOk P w H h a (KD P w a L) :=
  ⟨⟨h0, hl, o, es, ep, h1, h2, h3, h4, h5⟩, ⟨o, h1⟩, fun g1 g2 ⟨a0, a1, o, es, ep, e, r⟩ k => ⟨a0, a1, o, es, ep, k o e, r⟩⟩
/-- a dict of situations, all of them tracked -/
structure KnownAt (P : Program) (w : World) (H : Hp) (a : Addr) (L : Ents) : Prop where
  at_ : H a = some (KD P w a L)
  sits : ∀ p ∈ L, SitAt H (.ref p.2) p.1
section
variable {P : Program} {w : World} {H : Hp} {h : Heap} {a : Addr} {L : Ents}
theorem KnownAt.dict (k : KnownAt P w H a L) (ok : HOk P w H h) : (a == sysModules) = false ∧ L.length ≤ sizeLine ∧ h.DictOfH (nestedKind P w) a (entsX L) := by
  obtain ⟨⟨h0, hl, o, es, ep, h1, h2, h3, h4, h5⟩, _, _⟩ := ok a _ k.at_
  refine ⟨h0, hl, o, es, ep, h1, h2, h3, h4, fun x hx => ?_, h5⟩
  obtain ⟨p, hp, rfl⟩ := List.mem_map.mp hx
  exact sit_key ok (k.sits p hp)
theorem at_ents {L : Ents} {s : YM.Sit} : (atKey (entsX L) (nkS s)).isSome = decide (s ∈ L.map (·.1)) := by
  unfold atKey
  rw [Option.isSome_map]
  induction L with
  | nil => rfl
  | cons p L ih =>
    show ((entsX (p :: L)).find? _).isSome = _
    rw [show entsX (p :: L) = (nkS p.1, p.2, Value.bool true) :: entsX L from rfl, List.find?_cons]
    by_cases e : p.1 = s
    · rw [decide_eq_true (show nkS p.1 = nkS s by rw [e])]
      rw [decide_eq_true]
      · rfl
      · rw [List.map_cons, e]
        exact List.mem_cons_self
    · rw [decide_eq_false (fun q => e (nkS_inj q))]
      show (List.find? _ (entsX L)).isSome = _
      rw [ih]
      congr 1
      rw [List.map_cons, List.mem_cons]
      exact propext ⟨.inr, fun q => q.resolve_left fun z => e z.symm⟩
end
section
variable {X : Cx}
def rInK (P : Program) (w : World) : R2 := fun x y H Q => ∃ (a b : Addr) (s : YM.Sit) (L : Ents), x = .ref b ∧ y = .ref a ∧ SitAt H (.ref b) s ∧ KnownAt P w H a L ∧ Q (.bl (decide (s ∈ L.map (·.1)))) H
theorem op_inK (hu : X.A.units + 64 < cLine) : OpR X (compareOp .In) (rInK X.prog X.w) := by
  intro pins s σ H x y v u Q I rx ry h
  obtain ⟨a, b, z, L, rfl, rfl, hb, hk, q⟩ := h
  cases rx
  cases ry
  obtain ⟨h0, hl, hd⟩ := hk.dict I.hok
  refine wpAny_in_heap (knd := nestedKind X.prog X.w) (show X.A.in1.units + 8 < cLine by show X.A.units + 1 + 8 < cLine; omega) (sit_key I.hok hb) h0 hd ?_
  rw [at_ents]
  exact ⟨.bl _, H, I.tok _, rfl, q⟩
/-- known[s] = True, s not there -/
def rSetK (P : Program) (w : World) : TSet := fun o i v H q => ∃ (a b : Addr) (s : YM.Sit) (L : Ents), o = .ref a ∧ i = .ref b ∧ v = .bl true ∧ SitAt H (.ref b) s ∧ KnownAt P w H a L ∧ s ∉ L.map (·.1) ∧ L.length < 10000 ∧ q (upd H a (KD P w a (L ++ [(s, b)])))
theorem set_K (hu : X.A.units + 64 < cLine) : PSet X (rSetK X.prog X.w) := by
  intro pins s σ H o i v ov iv u Q I ro ri rv h
  obtain ⟨a, b, z, L, rfl, rfl, rfl, hb, hk, hn, hl, q⟩ := h
  cases ro
  cases ri
  cases rv
  obtain ⟨h0, _, hd⟩ := hk.dict I.hok
  have hne : atKey (entsX L) (nkS z) = none := by
    have := at_ents (L := L) (s := z)
    rw [decide_eq_false hn] at this
    exact Option.isNone_iff_eq_none.mp (by rw [Option.isNone_iff_eq_none]; exact Option.not_isSome_iff_eq_none.mp (by rw [this]; decide))
  refine wpAny_setItem_heap (knd := nestedKind X.prog X.w) (hsz := by rw [entsX, List.length_map, sizeLine_eq]; omega) (show X.A.in1.units + 8 < cLine by show X.A.units + 1 + 8 < cLine; omega) (sit_key I.hok hb) hd fun h' dd' hs => ?_
  obtain ⟨o, es, ep, h1, h2, h3, h4, _, h5⟩ := dd'
  rw [storedH_new hne] at h4 h5
  have e : entsX L ++ [(nkS z, b, Value.bool true)] = entsX (L ++ [(z, b)]) := by simp [entsX]
  rw [e] at h4 h5
  refine ⟨_, I.write (x := a) (e := a) (o := KD X.prog X.w a (L ++ [(z, b)])) (by rw [hk.at_]; exact True.intro) (.inl rfl) (fun b' q' hb' e' => (hs.2 b' hb').trans e') ⟨o, h1⟩ (kd_ok h0 (by rw [List.length_append, List.length_singleton, sizeLine_eq]; omega) h1 h2 h3 h4 h5), q⟩
/-- {s: True} -/
def tDisp1 (P : Program) (w : World) (tk tv : TE) : TE := fun σ H Q => ∀ p, H p = none → tk σ (upd H p (KD P w p [])) fun x H1 => tv σ H1 fun y H2 => ∃ (b : Addr) (s : YM.Sit), x = .ref b ∧ y = .bl true ∧ SitAt H2 (.ref b) s ∧ H2 p = some (KD P w p []) ∧ Q (.ref p) (upd H2 p (KD P w p [(s, b)]))
theorem pe_disp1 {k v : Expr} {pos : Pos} {tk tv : TE} (hu : X.A.units + 64 < cLine) (hk : PE X k tk) (hv : PE X v tv) : PE X (.Dict [some k] [v] pos) (tDisp1 X.prog X.w tk tv) := by
  refine ⟨fun pins s σ H Q I q => ?_⟩
  have hn := I.hok.fresh (Nat.le_refl s.heap.objs.size)
  have hbs : (s.heap.objs.size == sysModules) = false := beq_eq_false_iff_ne.mpr (Ne.symm (Nat.ne_of_lt I.big))
  have I1 := I.laid (a := s.heap.objs.size) (o := KD X.prog X.w s.heap.objs.size []) (h' := s.heap.push { cls := .type "dict", data := .dict #[] }) (t' := s.toks) (fun _ _ q => Heap.get?_push_of_some _ q) (Nat.le_refl _)
    (kd_ok hbs (Nat.zero_le _) (Heap.get?_push_size _ rfl) ⟨rfl, rfl, rfl⟩ rfl rfl List.nodup_nil)
  have hz := zip_pairTrees [some k] [v] X.env pos rfl rfl
  rw [arm_eval_Dict, hz, dictDisplay_pairs (pairTrees [some k] [v] X.env pos) (by intro e; have := pairTrees_length [some k] [v] X.env pos rfl rfl; rw [e] at this; cases this) (by rw [pairTrees_length [some k] [v] X.env pos rfl rfl]; show 1 < 17; decide)]
  refine wpAny_bind (wpAny_standAt (wpAny_bind (wpAny_subDictH (knd := nestedKind X.prog X.w) (Q := fun d s' => wpAny (model X.prog X.w) X.A (pure (Value.ref d)) (EP X pins σ Q) X.xe s') (show X.A.units + 8 < cLine by omega)
    (by rw [pairTrees_length [some k] [v] X.env pos rfl rfl]; show 1 ≤ 15; decide) ?_)))
  refine pairTrees_cons_walk (thn (hk.run pins _ σ _ _ I1 (q _ hn)) fun u s1 ⟨x, H1, I2, rx, q1⟩ => thn (hv.run pins s1 σ H1 _ I2 q1) fun w2 s2 ⟨y, H2, I3, ry, b, z, ex, ey, hz2, he, q2⟩ => pairTrees_nil_walk ?_)
  subst ex ey
  cases rx
  cases ry
  have kn : KnownAt X.prog X.w H2 s.heap.objs.size [] := ⟨he, fun p hp => nomatch hp⟩
  obtain ⟨_, _, hd⟩ := kn.dict I3.hok
  refine ⟨[(nkS z, b, .bool true)], ⟨rfl, rfl, sit_key I3.hok hz2, trivial⟩, hd, fun h' tk' dd' hs => wpAny_pure ?_⟩
  obtain ⟨o, es, ep, h1, h2, h3, h4, _, h5⟩ := dd'
  have e : storedAllH ([] : List (NK × Addr × Value)) [(nkS z, b, Value.bool true)] = entsX [(z, b)] := rfl
  rw [e] at h4 h5
  exact ⟨.ref s.heap.objs.size, _, I3.write (x := s.heap.objs.size) (e := s.heap.objs.size) (o := KD X.prog X.w s.heap.objs.size [(z, b)]) (t' := tk') (by rw [he]; exact True.intro) (.inl rfl) (fun b' q' hb' e' => (hs.2 b' hb').trans e') ⟨o, h1⟩
    (kd_ok hbs (by rw [sizeLine_eq]; show 1 ≤ 16777216; decide) h1 h2 h3 h4 h5), rfl, q2⟩
end
end YW
namespace YW
open PySem L2
/-! ### data, compared -/
theorem dpAll_ints {K : PySem.W.Frag} {H : Hp} : ∀ ns : List Int, DpAll K H (ns.map V.int) (ns.map PyData.int)
  | [] => .nil
  | n :: ns => .cons (.int n) (dpAll_ints ns)
theorem dp_ints {K : PySem.W.Frag} {H : Hp} {a : Addr} {ns : List Int} (h : SqL K H a (ns.map V.int)) : Dp K H (.ref a) (.list (ns.map PyData.int)) := .lst h (dpAll_ints ns)
theorem eqv_ints : ∀ ns : List Int, PyData.eqvAll (ns.map PyData.int) (ns.map PyData.int) = true
  | [] => by simp [PyData.eqvAll]
  | n :: ns => by simp [PyData.eqvAll, PyData.eqv, eqv_ints ns]
theorem eqv_ints_list (ns : List Int) : PyData.eqv (.list (ns.map PyData.int)) (.list (ns.map PyData.int)) = true := by
  simp [PyData.eqv, eqv_ints ns]
theorem rgV_up (n : Nat) : rgV 1 ((n : Int) + 1) = (YM.upTo n).map V.int := by
  unfold rgV YM.upTo
  rw [List.map_map, show ((n : Int) + 1 - 1).toNat = n by omega]
  refine List.map_congr_left fun k _ => ?_
  show V.int (1 + (k : Int)) = V.int ((k : Int) + 1)
  rw [Int.add_comm]
theorem upTo_sorted (n : Nat) : (YM.upTo n).Pairwise (· ≤ ·) := by
  unfold YM.upTo
  rw [List.pairwise_map]
  refine List.Pairwise.imp (fun {a b} h => ?_) (List.pairwise_lt_range (n := n))
  omega
theorem upTo_eq {ns : List Int} {n : Nat} (h : ns.Perm (YM.upTo n)) (hs : ns.Pairwise (· ≤ ·)) : ns = YM.upTo n := PySem.W.ksm_same h hs (upTo_sorted n)
theorem lenVI (ns : List Int) : (ns.map V.int).length = ns.length := List.length_map ..
/-! ### the opening lines of a def's proof -/
section
variable {P : Program} {w : World} {K : PySem.W.Frag} {mg : Str → Option Value} {base : Heap}
open PySem.Spec PyProof.Rows in
theorem cal_of {x : Str} {st : Stmt} {N ps : List Str} {k : Nat} {sp : Sp} (D : IsDef K mg x st) (b : BindT x x st ps) (S : FnScope N ps (C8.fnScope st)) (len : ∀ vs H Q E, sp vs H Q E → vs.length = ps.length)
    (hbody : ∀ (f : Addr) (cdv : Value) (A : Around) (outer : List Env) (s : Shared) (H : Hp) (vs : List V) (Q : VK) (E : XK), Room k (A.deeper (envOfC x (C8.fnScope st) s.heap.objs.size f cdv)) → sp vs H Q E →
      ∃ t, PSs (cxOf C8.CX0 P w K mg base N x (C8.fnScope st) f cdv A outer s H E).nox (C8.fnBody st) t ∧ t { nx := fun _ H' => Q .non H', rt := Q } (start N vs) H) : C8.Cal P w K mg base (k + 1) x sp [] := by
  obtain ⟨f, fd, D, df⟩ := D
  exact C8.cal0 D (D.fn.binds df b) .nil S len (hbody f)
open PySem.Spec PyProof.Rows in
theorem met_of {m qual : Str} {C : Addr} {st : Stmt} {N ps : List Str} {k : Nat} {sp : Sp} (c : Cls K C) (D : IsMeth K C m qual st) (b : BindT m qual st ps) (S : FnScope N ps (C8.fnScope st)) (len : ∀ vs H Q E, sp vs H Q E → vs.length = ps.length)
    (hbody : ∀ (f : Addr) (cdv : Value) (A : Around) (outer : List Env) (s : Shared) (H : Hp) (vs : List V) (Q : VK) (E : XK), Room k (A.deeper (envOfC qual (C8.fnScope st) s.heap.objs.size f cdv)) → sp vs H Q E →
      ∃ t, PSs (cxOf C8.CX0 P w K mg base N qual (C8.fnScope st) f cdv A outer s H E).nox (C8.fnBody st) t ∧ t { nx := fun _ H' => Q .non H', rt := Q } (start N vs) H) : C8.Met P w K mg base (k + 1) C m sp [] := by
  obtain ⟨f, fd, me, F, df⟩ := D
  exact C8.met0 c me F (F.binds df b) S len (hbody f)
open PySem.Spec PyProof.Rows in
theorem mak_of {x qual : Str} {C : Addr} {st : Stmt} {N ps : List Str} {k : Nat} {sp : Sp} (hm : mg x = some (.ref C)) (D : IsInit K C qual st) (b : BindT "__init__" qual st ps) (S : FnScope N ps (C8.fnScope st)) (len : ∀ vs H Q E, sp vs H Q E → vs.length = ps.length)
    (hbody : ∀ (f : Addr) (cdv : Value) (A : Around) (outer : List Env) (s : Shared) (H : Hp) (vs : List V) (Q : VK) (E : XK), Room k (A.deeper (envOfC qual (C8.fnScope st) s.heap.objs.size f cdv)) → sp vs H Q E →
      ∃ t, PSs (cxOf C8.CX0 P w K mg base N qual (C8.fnScope st) f cdv A outer s H E).nox (C8.fnBody st) t ∧ t { nx := fun _ H' => Q .non H', rt := Q } (start N vs) H) : C8.Mak P w K mg base (k + 1) x C sp [] := by
  obtain ⟨f, fd, M, F, df⟩ := D
  exact C8.mak0 M hm F (F.binds df b) .nil S len (hbody f)
end
/-! ### rows -/
section
variable {P : Program} {w : World} {K : PySem.W.Frag} {mg : Str → Option Value} {base : Heap} {CG CR CY CS dI dO dT dC : Addr}
def RowIn (K : PySem.W.Frag) (H : Hp) (v : V) (row : List Int) : Prop := ∃ a, v = .ref a ∧ SqL K H a (row.map V.int) ∧ row.length ≤ 60 ∧ YM.IsRow row
theorem RowIn.same {H H' : Hp} (s : Same H H') {v : V} {row : List Int} (h : RowIn K H v row) : RowIn K H' v row := let ⟨a, e, q, r⟩ := h; ⟨a, e, s.seq q, r⟩
def spIsRow (K : PySem.W.Frag) : Sp := fun vs H Q _ => ∃ v row, vs = [v] ∧ RowIn K H v row ∧ ∀ H', Same H H' → Q (.bl true) H'
theorem c_is_row (T : Txt K w mg CG CR CY CS dI dO dT dC) : C8.Cal P w K mg base 1 "is_row" (spIsRow K) [] := by
  refine cal_of T.d_is_row b_is_row sc_is_row (fun vs H Q E h => ?_) (fun f cdv A outer s H vs Q E hr h => ?_)
  · obtain ⟨_, _, rfl, _⟩ := h
    rfl
  · obtain ⟨_, row, rfl, ⟨a, rfl, hS, hl, hR⟩, k⟩ := h
    refine ⟨_, pss_cons (ps_if (pt_cmpR op_gt (pe_callB call_len_seq (by rfl) T.z_len PySem.boot_len (pa_cons (pv 0) pa_nil)) (C8.pe_gc rfl T.v_MOST_rows) (nomark _)) (pss_one (ps_ret pe_bl)) pss_nil)
      (pss_one (ps_ret (pe_cmpR (op_eqD hr.units) (pe_callB cr_sortedI (by rfl) T.z_sorted (by decide +kernel) (pa_cons (pv 0) pa_nil))
        (pe_listRg rfl (by rfl) T.z_list (prg_2 (by rfl) T.z_range pe_int (pe_op op_add (pe_callB call_len_seq (by rfl) T.z_len PySem.boot_len (pa_cons (pv 0) pa_nil)) pe_int))) (nomark _)))), ?_⟩
    refine ⟨_, rfl, a, _, rfl, .inl hS, _, _, rfl, rfl, _, rfl, ?_⟩
    rw [lenVI, decide_eq_false (by omega)]
    refine iteF ?_
    refine ⟨_, rfl, a, row, rfl, hS, fun ns' p perm rising new => ?_⟩
    have s1 : Same H (upd H p (.lst (ns'.map V.int))) := Same.new new
    refine ⟨_, rfl, a, _, rfl, .inl (s1.seq hS), _, _, rfl, rfl, 1, _, rfl, rfl, .of_le (by decide) (by rw [lenVI]; omega) (by decide) (by omega), fun q hq => ?_⟩
    have e : ns' = YM.upTo row.length := upTo_eq (perm.trans hR) rising
    subst e
    rw [lenVI, rgV_up]
    have s2 : Same (upd H p (.lst ((YM.upTo row.length).map V.int))) (upd (upd H p (.lst ((YM.upTo row.length).map V.int))) q (.lst ((YM.upTo row.length).map V.int))) := Same.new hq
    refine ⟨_, _, dp_ints (SqL.of (s2 _ _ upd_same)), dp_ints (SqL.of upd_same), PySem.W.ke_shaped_ints _, PySem.W.ke_shaped_ints _, ?_⟩
    rw [eqv_ints_list]
    exact k _ (s1.trans s2)
end
end YW
namespace YW
open PySem L2
/-! ### a yard in the heap -/
def kdS : YM.Kd → Str
  | .s => "s" | .q => "q" | .d => "d" | .i => "i" | .o => "o"
def kdV (k : YM.Kd) : V := .str (kdS k)
def bdV (b : Nat) : V := if b = 0 then .non else .int (b : Nat)
def yfs (txt : Str) (lk lb ll : Addr) : List (Str × V) := [("text", .str txt), ("kinds", .ref lk), ("bounds", .ref lb), ("links", .ref ll)]
def LinkAt (H : Hp) (v : V) (l : Int × Int) : Prop := TupIs H v [.int l.1, .int l.2]
structure YOk (Y : YM.Yard) : Prop where
  pos : 1 ≤ Y.kinds.length
  most : Y.kinds.length ≤ 3
  bl : Y.bounds.length = Y.kinds.length
  lk : YM.LinksOk Y
  few : Y.links.length ≤ 6
def YardAt (CY : Addr) (H : Hp) (v : V) (txt : Str) (Y : YM.Yard) : Prop := ∃ (y dx lk lb ll : Addr) (ls : List V) (lks : List (Int × Int)), v = .ref y ∧ H y = some (.ins CY dx (yfs txt lk lb ll)) ∧ H lk = some (.lst (Y.kinds.map kdV)) ∧ H lb = some (.lst (Y.bounds.map bdV)) ∧
  H ll = some (.lst ls) ∧ Paired (LinkAt H) ls lks ∧ lks.Perm Y.links ∧ YOk Y
theorem LinkAt.keep {H H' : Hp} (k : KeepT H H') {v : V} {l : Int × Int} (h : LinkAt H v l) : LinkAt H' v l := TupIs.keep k h
theorem YardAt.same {CY : Addr} {H H' : Hp} (s : Same H H') {v : V} {txt : Str} {Y : YM.Yard} (h : YardAt CY H v txt Y) : YardAt CY H' v txt Y := by
  obtain ⟨y, dx, lk, lb, ll, ls, lks, e, h1, h2, h3, h4, h5, h6, h7⟩ := h
  exact ⟨y, dx, lk, lb, ll, ls, lks, e, s _ _ h1, s _ _ h2, s _ _ h3, s _ _ h4, Paired.mapP h5 fun _ _ q => q.keep (Same.keepT s), h6, h7⟩
theorem YardAt.ok {CY : Addr} {H : Hp} {v : V} {txt : Str} {Y : YM.Yard} (h : YardAt CY H v txt Y) : YOk Y := let ⟨_, _, _, _, _, _, _, _, _, _, _, _, _, _, o⟩ := h; o
theorem getK {Y : YM.Yard} {k : Nat} (h : k < Y.kinds.length) : (Y.kinds.map kdV)[k]? = some (kdV (Y.kind k)) := by
  rw [List.getElem?_map, List.getElem?_eq_getElem h]
  unfold YM.Yard.kind
  rw [List.getD_eq_getElem?_getD, List.getElem?_eq_getElem h]
  rfl
theorem getB {Y : YM.Yard} (o : YOk Y) {k : Nat} (h : k < Y.kinds.length) : (Y.bounds.map bdV)[k]? = some (bdV (Y.bound k)) := by
  have h' : k < Y.bounds.length := by rw [o.bl]; exact h
  rw [List.getElem?_map, List.getElem?_eq_getElem h']
  unfold YM.Yard.bound
  rw [List.getD_eq_getElem?_getD, List.getElem?_eq_getElem h']
  rfl
end YW
namespace YW
open PySem L2
section
variable {P : Program} {w : World} {K : PySem.W.Frag} {mg : Str → Option Value} {base : Heap} {CG CR CY CS dI dO dT dC : Addr}
theorem glob_ref {mg : Str → Option Value} {x : Str} {d : Addr} (h : mg x = some (.ref d)) : ∃ u, mg x = some u ∧ RelV (.ref d) u := ⟨_, h, rfl⟩
/-! ### the yard's methods -/
def spYLen (CY : Addr) : Sp := fun vs H Q _ => ∃ v txt Y, vs = [v] ∧ YardAt CY H v txt Y ∧ Q (.int (Y.kinds.length : Nat)) H
theorem m_len (T : Txt K w mg CG CR CY CS dI dO dT dC) : C8.Met P w K mg base 1 CY "__len__" (spYLen CY) [] := by
  refine met_of T.c_Y T.d_Y_len b_Y_len sc_Y_len (fun vs H Q E h => ?_) (fun f cdv A outer s H vs Q E hr h => ?_)
  · obtain ⟨_, _, _, rfl, _⟩ := h
    rfl
  · obtain ⟨_, txt, Y, rfl, ⟨y, dx, lk, lb, ll, ls, lks, rfl, h1, h2, h3, h4, h5, h6, h7⟩, k⟩ := h
    refine ⟨_, pss_one (ps_ret (pe_callB call_len_seq (by rfl) T.z_len PySem.boot_len (pa_cons (pe_fld (pv 0) rfl) pa_nil))), ?_⟩
    refine ⟨_, rfl, y, CY, dx, _, _, rfl, h1, T.c_Y, T.a_Y_kinds, rfl, lk, _, rfl, .inl (SqL.of h2), ?_⟩
    rw [List.length_map]
    exact k
/-- a table's tuple -/
theorem tab_ins (T : Txt K w mg CG CR CY CS dI dO dT dC) (k : YM.Kd) : TabTup K dI (kdS k) k.ins := by
  cases k
  · exact T.i_s
  · exact T.i_q
  · exact T.i_d
  · exact T.i_i
  · exact T.i_o
theorem tab_outs (T : Txt K w mg CG CR CY CS dI dO dT dC) (k : YM.Kd) : TabTup K dO (kdS k) k.outs := by
  cases k
  · exact T.o_s
  · exact T.o_q
  · exact T.o_d
  · exact T.o_i
  · exact T.o_o
def spYEnds (CY : Addr) (f : YM.Kd → List Int) : Sp := fun vs H Q _ => ∃ v txt Y k, vs = [v, .int ((k : Nat) : Int)] ∧ YardAt CY H v txt Y ∧ k < Y.kinds.length ∧ ∀ p, H p = none → Q (.ref p) (upd H p (.lst ((f (Y.kind k)).map V.int)))
theorem m_ins (T : Txt K w mg CG CR CY CS dI dO dT dC) : C8.Met P w K mg base 1 CY "ins" (spYEnds CY YM.Kd.ins) [] := by
  refine met_of T.c_Y T.d_Y_ins b_Y_ins sc_Y_ins (fun vs H Q E h => ?_) (fun f cdv A outer s H vs Q E hr h => ?_)
  · obtain ⟨_, _, _, _, rfl, _⟩ := h
    rfl
  · obtain ⟨_, txt, Y, n, rfl, ⟨y, dx, lk, lb, ll, ls, lks, rfl, h1, h2, h3, h4, h5, h6, h7⟩, hn, k⟩ := h
    obtain ⟨gI, es, m, D⟩ := T.t_INS
    obtain ⟨t, ht, hT⟩ := tab_ins T (Y.kind n)
    refine ⟨_, pss_one (ps_ret (pe_callTy call_list_of (by rfl) T.z_list (by decide +kernel) (pa_cons (pe_ix (ix_tab D) (C8.pe_gc rfl (glob_ref gI)) (pe_ix ix_list (pe_fld (pv 0) rfl) (pv 1) (fun _ _ => rfl)) (fun _ _ => rfl)) pa_nil))), ?_⟩
    refine ⟨_, rfl, y, CY, dx, _, _, rfl, h1, T.c_Y, T.a_Y_kinds, rfl, _, rfl, lk, _, _, _, rfl, rfl, SqL.of h2, atI_nat (getK hn), _, _, .ref t, rfl, rfl, ht, rfl, t, _, rfl, .inr (hT _), fun p hp => k p hp⟩
theorem m_outs (T : Txt K w mg CG CR CY CS dI dO dT dC) : C8.Met P w K mg base 1 CY "outs" (spYEnds CY YM.Kd.outs) [] := by
  refine met_of T.c_Y T.d_Y_outs b_Y_outs sc_Y_outs (fun vs H Q E h => ?_) (fun f cdv A outer s H vs Q E hr h => ?_)
  · obtain ⟨_, _, _, _, rfl, _⟩ := h
    rfl
  · obtain ⟨_, txt, Y, n, rfl, ⟨y, dx, lk, lb, ll, ls, lks, rfl, h1, h2, h3, h4, h5, h6, h7⟩, hn, k⟩ := h
    obtain ⟨gI, es, m, D⟩ := T.t_OUTS
    obtain ⟨t, ht, hT⟩ := tab_outs T (Y.kind n)
    refine ⟨_, pss_one (ps_ret (pe_callTy call_list_of (by rfl) T.z_list (by decide +kernel) (pa_cons (pe_ix (ix_tab D) (C8.pe_gc rfl (glob_ref gI)) (pe_ix ix_list (pe_fld (pv 0) rfl) (pv 1) (fun _ _ => rfl)) (fun _ _ => rfl)) pa_nil))), ?_⟩
    refine ⟨_, rfl, y, CY, dx, _, _, rfl, h1, T.c_Y, T.a_Y_kinds, rfl, _, rfl, lk, _, _, _, rfl, rfl, SqL.of h2, atI_nat (getK hn), _, _, .ref t, rfl, rfl, ht, rfl, t, _, rfl, .inr (hT _), fun p hp => k p hp⟩
def spYRoom (CY : Addr) : Sp := fun vs H Q _ => ∃ v txt Y k c, vs = [v, .int ((k : Nat) : Int), .int ((c : Nat) : Int)] ∧ YardAt CY H v txt Y ∧ k < Y.kinds.length ∧ Q (.bl (Y.room k c)) H
theorem m_room (T : Txt K w mg CG CR CY CS dI dO dT dC) : C8.Met P w K mg base 1 CY "room" (spYRoom CY) [] := by
  refine met_of T.c_Y T.d_Y_room b_Y_room sc_Y_room (fun vs H Q E h => ?_) (fun f cdv A outer s H vs Q E hr h => ?_)
  · obtain ⟨_, _, _, _, _, rfl, _⟩ := h
    rfl
  · obtain ⟨_, txt, Y, n, c, rfl, ⟨y, dx, lk, lb, ll, ls, lks, rfl, h1, h2, h3, h4, h5, h6, h7⟩, hn, k⟩ := h
    refine ⟨_, pss_one (ps_ret (pe_or (pe_cmpR op_isN (pe_ix ix_list (pe_fld (pv 0) rfl) (pv 1) (fun _ _ => rfl)) pe_non (nomark _)) (pe_one (pe_cmpR op_lt (pv 2) (pe_ix ix_list (pe_fld (pv 0) rfl) (pv 1) (fun _ _ => rfl)) (nomark _))))), ?_⟩
    refine ⟨_, rfl, y, CY, dx, _, _, rfl, h1, T.c_Y, T.a_Y_bounds, rfl, _, rfl, lb, _, _, _, rfl, rfl, SqL.of h3, atI_nat (getB h7 hn), rfl, _, rfl, ?_⟩
    unfold YM.Yard.room at k
    by_cases hb : Y.bound n = 0
    · have e : bdV (Y.bound n) = .non := by unfold bdV; rw [if_pos hb]
      rw [e, decide_eq_true rfl]
      refine iteT ?_
      rw [decide_eq_true hb, Bool.true_or] at k
      exact k
    · have e : bdV (Y.bound n) = .int (Y.bound n : Nat) := by unfold bdV; rw [if_neg hb]
      rw [decide_eq_false (by rw [e]; intro q; cases q)]
      refine iteF ?_
      refine ⟨_, rfl, _, rfl, y, CY, dx, _, _, rfl, h1, T.c_Y, T.a_Y_bounds, rfl, _, rfl, lb, _, _, _, rfl, rfl, SqL.of h3, atI_nat (getB h7 hn), _, _, rfl, e, ?_⟩
      rw [decide_eq_false hb, Bool.false_or] at k
      show Q (.bl (decide (((c : Nat) : Int) < ((Y.bound n : Nat) : Int)))) H
      rw [show decide (((c : Nat) : Int) < ((Y.bound n : Nat) : Int)) = decide (c < Y.bound n) from decide_eq_decide.mpr Int.ofNat_lt]
      exact k
end
end YW
namespace YW
open PySem L2
theorem Same.put {H H' : Hp} {p : Addr} {o : HO} (s : Same H H') (h : H p = none) : Same H (upd H' p o) := fun a u e => by
  rw [upd_ne (ne_of_none e h)]
  exact s a u e
theorem Same.add {H H' : Hp} {p : Addr} {o : HO} (s : Same H H') (h : H' p = none) : Same H (upd H' p o) := Same.put s (s.free h)
section
variable {P : Program} {w : World} {K : PySem.W.Frag} {mg : Str → Option Value} {base : Heap} {CG CR CY CS dI dO dT dC : Addr}
theorem tyes_go {σ : St} {H : Hp} {F G : Hp → Prop} (h : F H) : tYes σ H (fun b H3 => if b = true then F H3 else G H3) := by
  show if true = true then F H else G H
  rw [if_pos rfl]
  exact h
theorem call_lenMet {X : Cx} {k : Nat} {C : Addr} {sp : Sp} (M : C8.Met X.prog X.w X.K X.mg X.base k C "__len__" sp []) (hr : Room (k + 1) X.A) : CallR X (.builtin "len") (rLenOwn C (fun vs H Q E => sp (vs ++ []) H Q E) C8.E0) := by
  obtain ⟨f, fd, ps, ds, hc, hm, F, b, d⟩ := M.ex
  exact call_lenOwn hm.at_ hm.fn (F.raw b d) hr C8.pass0
/-! ### situations, moves -/
def spCheckRow (K : PySem.W.Frag) : Sp := fun vs H Q _ => ∃ v row, vs = [v] ∧ RowIn K H v row ∧ ∀ H', Same H H' → Q .non H'
theorem c_check_row (T : Txt K w mg CG CR CY CS dI dO dT dC) : C8.Cal P w K mg base 2 "check_row" (spCheckRow K) [] := by
  refine cal_of T.d_check_row b_check_row sc_check_row (fun vs H Q E h => ?_) (fun f cdv A outer s H vs Q E hr h => ?_)
  · obtain ⟨_, _, rfl, _⟩ := h
    rfl
  · obtain ⟨v, row, rfl, hR, k⟩ := h
    refine ⟨_, pss_one (ps_if (pt_not (pt_val (C8.pe_c (c_is_row T) hr (by decide) rfl (pa_cons (pv 0) pa_nil)))) (pss_one ps_never) pss_nil), ?_⟩
    refine ⟨_, rfl, v, row, rfl, hR, fun H' s => ⟨true, rfl, ?_⟩⟩
    exact iteF (k _ s)
def spFirst (K : PySem.W.Frag) (CY : Addr) : Sp := fun vs H Q _ => ∃ v u row txt Y, vs = [v, u] ∧ YardAt CY H v txt Y ∧ RowIn K H u row ∧ ∀ r H', Same H H' → SitAt H' r (YM.init Y.kinds.length) → Q r H'
theorem c_first (T : Txt K w mg CG CR CY CS dI dO dT dC) : C8.Cal P w K mg base 3 "first_situation" (spFirst K CY) [] := by
  refine cal_of T.d_first_situation b_first_situation sc_first_situation (fun vs H Q E h => ?_) (fun f cdv A outer s H vs Q E hr h => ?_)
  · obtain ⟨_, _, _, _, _, rfl, _⟩ := h
    rfl
  · obtain ⟨v, u, row, txt, Y, rfl, hY, hR, k⟩ := h
    have nd := sc_first_situation.nd
    refine ⟨_, pss_cons (ps_expr (C8.pe_c (c_check_row T) hr (by decide) rfl (pa_cons (pv 1) pa_nil)))
      (pss_one (ps_ret (pe_tup (pa_cons pe_int (pa_cons (pe_tupleOf (by rfl) T.z_tuple (pe_lc (own := [("_", 2)]) (g := gName 2) (tt := tYes) rfl nd (pi_range1 (by rfl) T.z_range (pa_cons (pe_callB (call_lenMet (m_len T) hr) (by rfl) T.z_len PySem.boot_len (pa_cons (pv 0) pa_nil)) pa_nil))
        (blkOk_by (own := [("_", 2)]) (N := n_first_situation) (sc := C8.fnScope s_first_situation) (by decide +kernel)) (fun _ _ _ _ _ => pg_name (i := 2) nd rfl (Or.inl rfl)) (fun _ _ _ _ _ => pts_nil) (fun _ _ _ _ _ => pe_tup pa_nil))) (pa_cons (pe_tup pa_nil) pa_nil)))))), ?_⟩
    refine ⟨_, rfl, u, row, rfl, hR, fun H1 s1 => ?_⟩
    have hY1 := hY.same s1
    obtain ⟨y, dx, lk, lb, ll, ls, lks, rfl, h1, h2, h3, h4, h5, h6, h7⟩ := id hY1
    refine ⟨_, rfl, y, dx, _, rfl, h1, _, txt, Y, rfl, hY1, (Y.kinds.length : Nat), rfl, ⟨by omega, by have := h7.most; omega⟩, ?_⟩
    refine ⟨_, rfl, by omega, by have := h7.most; omega, fun D hD => ?_⟩
    refine lc_range (lo := 0) (n := ((Y.kinds.length : Nat) : Int).toNat) (fun i H' => Same H1 H' ∧ ∃ xs, H' D = some (.lst xs) ∧ HeldAt H' xs (List.replicate i [])) ⟨Same.new hD, [], upd_same, .nil⟩ (fun i H' hi ⟨s2, xs, hx, hh⟩ => ?_) (fun H' ⟨s2, xs, hx, hh⟩ => ?_)
    · refine ⟨rfl, ?_⟩
      refine tyes_go ?_
      refine ⟨Nat.zero_le _, fun p hp => ?_⟩
      have hxl : xs.length = i := by have := Paired.length hh; simpa using this
      refine ⟨xs, (by rw [upd_ne (ne_of_none hx hp)]; exact hx), Nat.lt_of_lt_of_le (show xs.length < 100 by have := h7.most; omega) (by decide), ?_⟩
      have kt : KeepT H' (upd (upd H' p (.tup [])) D (.lst (xs ++ [.ref p]))) := (KeepT.new hp).trans (KeepT.put (by rw [upd_ne (ne_of_none hx hp)]; exact hx) (by intro _ q; cases q))
      refine ⟨Same.put (Same.add s2 hp) hD, _, upd_same, ?_⟩
      rw [List.replicate_succ']
      refine Paired.snoc (hh.keep kt) ⟨p, rfl, ?_⟩
      rw [upd_ne (ne_of_none hx hp).symm, upd_same]
      rfl
    · refine .inl ⟨D, xs, rfl, SqL.of hx, fun q hq => ?_⟩
      refine ⟨Nat.zero_le _, fun p hp => ?_⟩
      refine ⟨by show 3 ≤ sizeLine; decide, fun t ht => ?_⟩
      have kq : KeepT H' (upd H' q (.tup xs)) := KeepT.new hq
      have kp : KeepT (upd H' q (.tup xs)) (upd (upd H' q (.tup xs)) p (.tup [])) := KeepT.new hp
      have kk : KeepT (upd (upd H' q (.tup xs)) p (.tup [])) (upd (upd (upd H' q (.tup xs)) p (.tup [])) t (.tup [.int 0, .ref q, .ref p])) := KeepT.new ht
      refine k _ _ (s1.trans (Same.add (Same.add (Same.add s2 hq) hp) ht)) ⟨t, q, p, xs, rfl, upd_same, kk _ _ (kp _ _ upd_same), ?_, kk _ _ upd_same⟩
      rw [show ((Y.kinds.length : Nat) : Int).toNat = Y.kinds.length from Int.toNat_natCast _] at hh
      exact hh.keep ((kq.trans kp).trans kk)
end
end YW
namespace YW
open PySem L2
theorem Paired.at {α β : Type} {F : α → β → Prop} : ∀ {l : List α} {r : List β}, Paired F l r → ∀ {k : Nat} {y : β}, r[k]? = some y → ∃ x, l[k]? = some x ∧ F x y
  | _, _, .nil, _, _, h => by simp at h
  | _, _, .cons h t, 0, y, e => by
    cases e
    exact ⟨_, rfl, h⟩
  | _, _, .cons h t, k + 1, y, e => by
    obtain ⟨x, h1, h2⟩ := Paired.at t (k := k) (y := y) (by simpa using e)
    exact ⟨x, by simpa using h1, h2⟩
theorem getD_get {α : Type} {l : List α} {k : Nat} {d : α} (h : k < l.length) : l[k]? = some (l.getD k d) := by
  rw [List.getElem?_eq_getElem h, List.getD_eq_getElem?_getD, List.getElem?_eq_getElem h]
  rfl
theorem atI_of {xs : List V} {z : Int} {v : V} (h0 : 0 ≤ z) (h : xs[z.toNat]? = some v) : atI xs z = some v := at_of (Int.toNat_of_nonneg h0).symm h
theorem at_last {l : List Int} (h : l ≠ []) : atI (l.map V.int) (-1) = some (.int (l.getLastD 0)) := by
  obtain ⟨r, a, rfl⟩ : ∃ r a, l = r ++ [a] := ⟨l.dropLast, l.getLast h, (List.dropLast_concat_getLast h).symm⟩
  rw [List.map_append]
  have e : (r ++ [a]).getLastD 0 = a := by simp
  rw [e]
  exact atI_last _ _
theorem at_head {l : List Int} (h : l ≠ []) : atI (l.map V.int) 0 = some (.int (l.headD 0)) := by
  cases l with
  | nil => exact absurd rfl h
  | cons a r => exact atI_nat (j := 0) rfl
/-- the device's number -/
def DevOk (Y : YM.Yard) (d : Int) : Prop := d = -1 ∨ (0 ≤ d ∧ d.toNat < Y.kinds.length)
section
variable {P : Program} {w : World} {K : PySem.W.Frag} {mg : Str → Option Value} {base : Heap} {CG CR CY CS dI dO dT dC : Addr}
def SqLI (K : PySem.W.Frag) (H : Hp) (v : V) (ns : List Int) : Prop := ∃ a, v = .ref a ∧ SqL K H a (ns.map V.int)
theorem SqLI.same {H H' : Hp} (s : Same H H') {v : V} {ns : List Int} (h : SqLI K H v ns) : SqLI K H' v ns := let ⟨a, e, q⟩ := h; ⟨a, e, s.seq q⟩
def spSrcEnds (K : PySem.W.Frag) (CY : Addr) : Sp := fun vs H Q _ => ∃ v u z src row txt Y s, vs = [v, u, z, .int src] ∧ YardAt CY H v txt Y ∧ SqLI K H u row ∧ SitAt H z s ∧ s.held.length = Y.kinds.length ∧ DevOk Y src ∧
  ∀ p, H p = none → Q (.ref p) (upd H p (.lst ((YM.srcEnds Y row.length s src).map V.int)))
theorem c_source_ends (T : Txt K w mg CG CR CY CS dI dO dT dC) : C8.Cal P w K mg base 2 "source_ends" (spSrcEnds K CY) [] := by
  refine cal_of T.d_source_ends b_source_ends sc_source_ends (fun vs H Q E h => ?_) (fun f cdv A outer s H vs Q E hr h => ?_)
  · obtain ⟨_, _, _, _, _, _, _, _, rfl, _⟩ := h
    rfl
  · obtain ⟨v, u, z, src, row, txt, Y, st, rfl, hY, hR, hS, hlen, hd, k⟩ := h
    have nd := sc_source_ends.nd
    refine ⟨_, pss_cons (ps_asg (pv 2) (pg_tup (by rfl) (pgs_cons (pg_name (i := 4) nd rfl (.inl rfl)) (pgs_cons (pg_name (i := 5) nd rfl (.inl rfl)) (pgs_cons (pg_name (i := 6) nd rfl (.inl rfl)) pgs_nil)))))
      (pss_cons (ps_if (pt_cmpR op_eq (pv 3) (C8.pe_gc rfl T.v_OUTSIDE) (nomark _)) (pss_one (ps_ret (pe_ifExp (pt_cmpR op_lt (pv 4) (pe_callB call_len_seq (by rfl) T.z_len PySem.boot_len (pa_cons (pv 1) pa_nil)) (nomark _)) (pe_lst (pa_cons pe_int pa_nil)) (pe_lst pa_nil)))) pss_nil)
      (pss_one (ps_ret (pe_ifExp (pt_truth (pe_ix ix_tup (pv 5) (pv 3) (fun _ _ => rfl)) (by intro _; rfl)) (C8.pe_mt (m_outs T) hr (by decide) (pv 0) (pa_cons (pv 3) pa_nil)) (pe_lst pa_nil))))), ?_⟩
    obtain ⟨a, b, c, hs, rfl, h1, h2, h3, h4⟩ := id hS
    obtain ⟨ra, rfl, hR⟩ := hR
    refine ⟨_, rfl, a, _, rfl, SqT.of h1, rfl, _, _, rfl, _, _, rfl, _, _, rfl, rfl, ?_⟩
    refine ⟨_, rfl, rfl, _, rfl, ?_⟩
    rcases hd with hd | ⟨hd0, hd⟩
    · subst hd
      rw [decide_eq_true rfl]
      refine iteT ?_
      refine ⟨_, rfl, _, rfl, ra, _, rfl, .inl hR, _, _, rfl, rfl, _, rfl, ?_⟩
      rw [lenVI]
      unfold YM.srcEnds at k
      rw [if_pos rfl] at k
      by_cases hc : st.came < row.length
      · rw [decide_eq_true (by omega)]
        rw [if_pos hc] at k
        exact iteT ⟨by show 1 ≤ sizeLine; decide, fun p hp => k p hp⟩
      · rw [decide_eq_false (by omega)]
        rw [if_neg hc] at k
        exact iteF ⟨Nat.zero_le _, fun p hp => k p hp⟩
    · rw [decide_eq_false (by intro q; injection q with q; omega)]
      refine iteF ?_
      obtain ⟨x, hx, ⟨p, rfl, hp⟩⟩ := Paired.at h3 (getD_get (d := []) (show src.toNat < st.held.length by omega))
      refine ⟨_, rfl, _, rfl, b, hs, src, .ref p, rfl, rfl, SqT.of h2, atI_of hd0 hx, _, .inr (.inl ⟨_, SqT.of hp, rfl⟩), ?_⟩
      unfold YM.srcEnds at k
      rw [if_neg (by omega)] at k
      have ee : ((st.held.getD src.toNat []).map V.int).isEmpty = (st.held.getD src.toNat []).isEmpty := by
        cases st.held.getD src.toNat [] <;> rfl
      rw [ee]
      cases hE : (st.held.getD src.toNat []).isEmpty with
      | true =>
        rw [hE] at k
        exact iteF ⟨Nat.zero_le _, fun p hp => k p hp⟩
      | false =>
        rw [hE] at k
        refine iteT ?_
        obtain ⟨y, dx, lk, lb, ll, ls, lks, rfl, g1, g2, g3, g4, g5, g6, g7⟩ := id hY
        refine ⟨_, rfl, y, dx, _, rfl, g1, rfl, _, rfl, _, txt, Y, src.toNat, ?_, hY, hd, fun p hp => k p hp⟩
        rw [Int.toNat_of_nonneg hd0]
        rfl
def spTgtEnds (CY : Addr) : Sp := fun vs H Q _ => ∃ v z tgt txt Y s, vs = [v, z, .int tgt] ∧ YardAt CY H v txt Y ∧ SitAt H z s ∧ s.held.length = Y.kinds.length ∧ DevOk Y tgt ∧
  ∀ p, H p = none → Q (.ref p) (upd H p (.lst ((YM.tgtEnds Y s tgt).map V.int)))
theorem c_target_ends (T : Txt K w mg CG CR CY CS dI dO dT dC) : C8.Cal P w K mg base 2 "target_ends" (spTgtEnds CY) [] := by
  refine cal_of T.d_target_ends b_target_ends sc_target_ends (fun vs H Q E h => ?_) (fun f cdv A outer s H vs Q E hr h => ?_)
  · obtain ⟨_, _, _, _, _, _, rfl, _⟩ := h
    rfl
  · obtain ⟨v, z, tgt, txt, Y, st, rfl, hY, hS, hlen, hd, k⟩ := h
    have nd := sc_target_ends.nd
    refine ⟨_, pss_cons (ps_if (pt_cmpR op_eq (pv 2) (C8.pe_gc rfl T.v_OUTSIDE) (nomark _)) (pss_one (ps_ret (pe_lst (pa_cons pe_int pa_nil)))) pss_nil)
      (pss_one (ps_ret (pe_ifExp (pt_val (C8.pe_mt (m_room T) hr (by decide) (pv 0) (pa_cons (pv 2) (pa_cons (pe_callB call_len_seq (by rfl) T.z_len PySem.boot_len (pa_cons (pe_ix ix_tup (pe_ix ix_tup (pv 1) pe_int (fun _ _ => rfl)) (pv 2) (fun _ _ => rfl)) pa_nil)) pa_nil))))
        (C8.pe_mt (m_ins T) hr (by decide) (pv 0) (pa_cons (pv 2) pa_nil)) (pe_lst pa_nil)))), ?_⟩
    obtain ⟨a, b, c, hs, rfl, h1, h2, h3, h4⟩ := id hS
    refine ⟨_, rfl, rfl, _, rfl, ?_⟩
    rcases hd with hd | ⟨hd0, hd⟩
    · subst hd
      rw [decide_eq_true rfl]
      exact iteT ⟨by show 1 ≤ sizeLine; decide, fun p hp => k p hp⟩
    · rw [decide_eq_false (by intro q; injection q with q; omega)]
      refine iteF ?_
      obtain ⟨x, hx, ⟨p, rfl, hp⟩⟩ := Paired.at h3 (getD_get (d := []) (show tgt.toNat < st.held.length by omega))
      obtain ⟨y, dx, lk, lb, ll, ls, lks, rfl, g1, g2, g3, g4, g5, g6, g7⟩ := id hY
      refine ⟨_, rfl, y, dx, _, rfl, g1, rfl, _, rfl, _, rfl, a, _, 1, .ref b, rfl, rfl, SqT.of h1, rfl, _, rfl, b, hs, tgt, .ref p, rfl, rfl, SqT.of h2, atI_of hd0 hx, p, _, rfl, .inr (SqT.of hp), ?_⟩
      refine ⟨_, txt, Y, tgt.toNat, (st.held.getD tgt.toNat []).length, ?_, hY, hd, _, rfl, ?_⟩
      · rw [Int.toNat_of_nonneg hd0, lenVI]
        rfl
      unfold YM.tgtEnds at k
      rw [if_neg (by omega)] at k
      cases hE : Y.room tgt.toNat (st.held.getD tgt.toNat []).length with
      | true =>
        rw [hE] at k
        refine iteT ?_
        refine ⟨_, rfl, y, dx, _, rfl, g1, rfl, _, rfl, _, txt, Y, tgt.toNat, ?_, hY, hd, fun p hp => k p hp⟩
        rw [Int.toNat_of_nonneg hd0]
        rfl
      | false =>
        rw [hE] at k
        exact iteF ⟨Nat.zero_le _, fun p hp => k p hp⟩
end
end YW
namespace YW
open PySem L2
/-- what a move of a situation wants of the places it names -/
structure MOk (row : List Int) (s : YM.Sit) (m : YM.Mv) : Prop where
  src : (m.1 = -1 ∧ s.came < row.length) ∨ (0 ≤ m.1 ∧ m.1.toNat < s.held.length ∧ s.held.getD m.1.toNat [] ≠ [])
  tgt : m.2.2.1 = -1 ∨ (0 ≤ m.2.2.1 ∧ m.2.2.1.toNat < s.held.length)
theorem MOk.of {Y : YM.Yard} {row : List Int} {s : YM.Sit} {m : YM.Mv} (lk : YM.LinksOk Y) (hl : s.held.length = Y.kinds.length) (c : YM.Can Y row.length s m) : MOk row s m where
  src := by
    by_cases h : m.1 = -1
    · refine .inl ⟨h, ?_⟩
      have h2 := c.2.1
      unfold YM.srcEnds at h2
      rw [if_pos h] at h2
      by_cases q : s.came < row.length
      · exact q
      · rw [if_neg q] at h2
        cases h2
    · have h1 := (lk.src _ _ c.1).resolve_left h
      obtain ⟨l, e, hl', _⟩ := YM.src_dev c h
      exact .inr ⟨h1.1, by rw [hl]; exact h1.2, by rw [YM.getD_of e]; exact hl'⟩
  tgt := by
    rcases lk.tgt _ _ c.1 with h | h
    · exact .inl h
    · exact .inr ⟨h.1, by rw [hl]; exact h.2⟩
theorem cut_one {xs : List V} (h : xs ≠ []) : ¬ (HT.sIx xs.length 0 (some 1) = 0 ∧ HT.sIx xs.length xs.length none = xs.length) ∧ cutV xs (some 1) none = xs.drop 1 := by
  have hp : 0 < xs.length := List.length_pos_iff.mpr h
  have e : HT.sIx xs.length 0 (some 1) = 1 := by
    have := HT.sIx_nat xs.length 0 1
    rw [show ((1 : Nat) : Int) = 1 from rfl] at this
    rw [this]
    omega
  refine ⟨fun q => by rw [e] at q; omega, ?_⟩
  unfold cutV
  rw [e, HT.sIx_none]
  rw [List.take_of_length_le]
  rw [List.length_drop]
  exact Nat.le_refl _
theorem cut_last {xs : List V} (h : xs ≠ []) : ¬ (HT.sIx xs.length 0 none = 0 ∧ HT.sIx xs.length xs.length (some (-1)) = xs.length) ∧ cutV xs none (some (-1)) = xs.dropLast := by
  have hp : 0 < xs.length := List.length_pos_iff.mpr h
  have e : HT.sIx xs.length xs.length (some (-1)) = xs.length - 1 := by
    show (if (-1 : Int) < 0 then ((-1 : Int) + (xs.length : Int)).toNat else min (-1 : Int).toNat xs.length) = xs.length - 1
    rw [if_pos (by decide)]
    omega
  refine ⟨fun q => by rw [e] at q; omega, ?_⟩
  unfold cutV
  rw [e, HT.sIx_none, List.drop_zero, List.dropLast_eq_take]
  rfl
theorem vcut {l : List Int} (e : Int) : (if e = 0 then (l.map V.int).drop 1 else (l.map V.int).dropLast) = (YM.cutAt l e).map V.int := by
  unfold YM.cutAt
  split
  · rw [List.drop_one, List.map_tail]
  · rw [List.map_dropLast]
section
variable {P : Program} {w : World} {K : PySem.W.Frag} {mg : Str → Option Value} {base : Heap} {CG CR CY CS dI dO dT dC : Addr}
def spWagon (K : PySem.W.Frag) : Sp := fun vs H Q _ => ∃ u z v row s m, vs = [u, z, v] ∧ SqLI K H u row ∧ SitAt H z s ∧ MvAt H v m ∧ MOk row s m ∧ Q (.int (YM.wagon row s m)) H
theorem c_wagon_of (T : Txt K w mg CG CR CY CS dI dO dT dC) : C8.Cal P w K mg base 1 "wagon_of" (spWagon K) [] := by
  refine cal_of T.d_wagon_of b_wagon_of sc_wagon_of (fun vs H Q E h => ?_) (fun f cdv A outer s H vs Q E hr h => ?_)
  · obtain ⟨_, _, _, _, _, _, rfl, _⟩ := h
    rfl
  · obtain ⟨u, z, v, row, st, m, rfl, ⟨ra, rfl, hR⟩, ⟨a, b, c, hs, rfl, h1, h2, h3, h4⟩, ⟨ma, rfl, hm⟩, ok, k⟩ := h
    have nd := sc_wagon_of.nd
    refine ⟨_, pss_cons (ps_asg (pv 1) (pg_tup (by rfl) (pgs_cons (pg_name (i := 3) nd rfl (.inl rfl)) (pgs_cons (pg_name (i := 4) nd rfl (.inl rfl)) (pgs_cons (pg_name (i := 5) nd rfl (.inl rfl)) pgs_nil)))))
      (pss_cons (ps_if (pt_cmpR op_eq (pe_ix ix_tup (pv 2) pe_int (fun _ _ => rfl)) (C8.pe_gc rfl T.v_OUTSIDE) (nomark _)) (pss_one (ps_ret (pe_ix ix_list (pv 0) (pv 3) (fun _ _ => rfl)))) pss_nil)
      (pss_one (ps_ret (pe_ix ix_tup (pe_ix ix_tup (pv 4) (pe_ix ix_tup (pv 2) pe_int (fun _ _ => rfl)) (fun _ _ => rfl)) (pe_ifExp (pt_cmpR op_eq (pe_ix ix_tup (pv 2) pe_int (fun _ _ => rfl)) (C8.pe_gc rfl T.v_LEFT) (nomark _)) pe_int (pe_un un_neg pe_int)) (fun _ _ => rfl))))), ?_⟩
    refine ⟨_, rfl, a, _, rfl, SqT.of h1, rfl, _, _, rfl, _, _, rfl, _, _, rfl, rfl, ?_⟩
    refine ⟨_, rfl, ma, _, 0, .int m.1, rfl, rfl, SqT.of hm, rfl, rfl, _, rfl, ?_⟩
    unfold YM.wagon at k
    rcases ok.src with ⟨e, hc⟩ | ⟨h0, hlt, hne⟩
    · rw [e, decide_eq_true rfl]
      rw [if_pos e] at k
      refine iteT ?_
      refine ⟨_, rfl, _, rfl, ra, _, _, .int (row.getD st.came 0), rfl, rfl, hR, atI_nat ?_, k⟩
      rw [List.getElem?_map, getD_get (d := 0) hc]
      rfl
    · rw [decide_eq_false (by intro q; injection q with q; omega)]
      rw [if_neg (by omega)] at k
      refine iteF ?_
      obtain ⟨x, hx, ⟨p, rfl, hp⟩⟩ := Paired.at h3 (getD_get (d := []) hlt)
      refine ⟨_, rfl, _, rfl, ma, _, 0, .int m.1, rfl, rfl, SqT.of hm, rfl, b, hs, m.1, .ref p, rfl, rfl, SqT.of h2, atI_of h0 hx, ?_⟩
      refine ⟨_, rfl, ma, _, 1, .int m.2.1, rfl, rfl, SqT.of hm, rfl, rfl, _, rfl, ?_⟩
      unfold YM.endOf at k
      by_cases he : m.2.1 = 0
      · rw [he, decide_eq_true rfl]
        rw [if_pos he] at k
        exact iteT ⟨p, _, 0, _, rfl, rfl, SqT.of hp, at_head hne, k⟩
      · rw [decide_eq_false (by intro q; injection q with q; omega)]
        rw [if_neg he] at k
        exact iteF ⟨1, rfl, p, _, -1, _, rfl, rfl, SqT.of hp, at_last hne, k⟩
def spLive : Sp := fun vs H Q _ => ∃ z s, vs = [z] ∧ SitAt H z s ∧ s.gone.length ≤ 1000 ∧ ∀ H', Same H H' → Q (.bl (decide s.live)) H'
theorem eqv_ne_ints : ∀ ns ms : List Int, PyData.eqvAll (ns.map PyData.int) (ms.map PyData.int) = decide (ns = ms)
  | [], [] => by simp [PyData.eqvAll]
  | [], m :: ms => by simp [PyData.eqvAll]
  | n :: ns, [] => by simp [PyData.eqvAll]
  | n :: ns, m :: ms => by
    simp only [List.map_cons, PyData.eqvAll, PyData.eqv, eqv_ne_ints ns ms]
    by_cases h : n = m
    · subst h
      simp
    · simp [h]
theorem eqv_list_ints (ns ms : List Int) : PyData.eqv (.list (ns.map PyData.int)) (.list (ms.map PyData.int)) = decide (ns = ms) := by
  simp only [PyData.eqv, eqv_ne_ints]
theorem c_is_live (T : Txt K w mg CG CR CY CS dI dO dT dC) : C8.Cal P w K mg base 1 "is_live" spLive [] := by
  refine cal_of T.d_is_live b_is_live sc_is_live (fun vs H Q E h => ?_) (fun f cdv A outer s H vs Q E hr h => ?_)
  · obtain ⟨_, _, rfl, _⟩ := h
    rfl
  · obtain ⟨z, st, rfl, ⟨a, b, c, hs, rfl, h1, h2, h3, h4⟩, hl, k⟩ := h
    have nd := sc_is_live.nd
    refine ⟨_, pss_cons (ps_set (i := 1) nd rfl (Or.inl rfl) (pe_ix ix_tup (pv 0) pe_int (fun _ _ => rfl)))
      (pss_one (ps_ret (pe_cmpR (op_eqD hr.units) (pe_callTy call_list_of (by rfl) T.z_list (by decide +kernel) (pa_cons (pv 1) pa_nil))
        (pe_listRg rfl (by rfl) T.z_list (prg_2 (by rfl) T.z_range pe_int (pe_op op_add (pe_callB call_len_seq (by rfl) T.z_len PySem.boot_len (pa_cons (pv 1) pa_nil)) pe_int))) (nomark _)))), ?_⟩
    refine ⟨_, rfl, a, _, 2, .ref c, rfl, rfl, SqT.of h1, rfl, ?_⟩
    refine ⟨_, rfl, c, _, rfl, .inr (SqT.of h4), fun p hp => ?_⟩
    have s1 : Same H (upd H p (.lst (st.gone.map V.int))) := Same.new hp
    refine ⟨_, rfl, c, _, rfl, .inr (SqT.of (s1 _ _ h4)), _, _, rfl, rfl, 1, _, rfl, rfl, .of_le (by decide) (by rw [lenVI]; omega) (by decide) (by omega), fun q hq => ?_⟩
    rw [lenVI, rgV_up]
    have s2 := Same.new (o := .lst ((YM.upTo st.gone.length).map V.int)) hq
    refine ⟨_, _, dp_ints (SqL.of (s2 _ _ upd_same)), dp_ints (SqL.of upd_same), PySem.W.ke_shaped_ints _, PySem.W.ke_shaped_ints _, ?_⟩
    rw [eqv_list_ints]
    exact k _ (s1.trans s2)
end
end YW
namespace YW
open PySem L2
theorem Paired.set {α β : Type} {F : α → β → Prop} {x : α} {y : β} (r : F x y) : ∀ {l : List α} {m : List β} (i : Nat), Paired F l m → Paired F (l.set i x) (m.set i y)
  | _, _, _, .nil => .nil
  | _, _, 0, .cons _ t => .cons r t
  | _, _, i + 1, .cons q t => .cons q (Paired.set r i t)
theorem ixN_of {n : Nat} {i : Int} (h0 : 0 ≤ i) (h : i.toNat < n) : ixN n i = some i.toNat := by
  unfold ixN
  rw [if_pos h0, if_pos (by omega)]
section
variable {P : Program} {w : World} {K : PySem.W.Frag} {mg : Str → Option Value} {base : Heap} {CG CR CY CS dI dO dT dC : Addr}
def spAfter (K : PySem.W.Frag) : Sp := fun vs H Q _ => ∃ u z v row s m, vs = [u, z, v] ∧ SqLI K H u row ∧ SitAt H z s ∧ MvAt H v m ∧ MOk row s m ∧ s.gone.length ≤ 1000 ∧ (∀ l ∈ s.held, l.length ≤ 1000) ∧ s.held.length ≤ 1000 ∧
  ∀ r H', Same H H' → SitAt H' r (YM.aft row s m) → Q r H'
/-- where the loop's frame stands behind the first if, the second one -/
theorem c_after (T : Txt K w mg CG CR CY CS dI dO dT dC) : C8.Cal P w K mg base 2 "after" (spAfter K) [] := by
  refine cal_of T.d_after b_after sc_after (fun vs H Q E h => ?_) (fun f cdv A outer s H vs Q E hr h => ?_)
  · obtain ⟨_, _, _, _, _, _, rfl, _⟩ := h
    rfl
  · obtain ⟨u, z, v, row, st, m, rfl, hR, hS, hM, ok, hg, hh, hn, k⟩ := h
    have nd := sc_after.nd
    refine ⟨_, pss_cons (ps_asg (pv 1) (pg_tup (by rfl) (pgs_cons (pg_name (i := 3) nd rfl (.inl rfl)) (pgs_cons (pg_name (i := 4) nd rfl (.inl rfl)) (pgs_cons (pg_name (i := 5) nd rfl (.inl rfl)) pgs_nil)))))
      (pss_cons (ps_set (i := 6) nd rfl (Or.inl rfl) (C8.pe_c (c_wagon_of T) hr (by decide) rfl (pa_cons (pv 0) (pa_cons (pv 1) (pa_cons (pv 2) pa_nil)))))
      (pss_cons (ps_set (i := 7) nd rfl (Or.inl rfl) (pe_callTy call_list_of (by rfl) T.z_list (by decide +kernel) (pa_cons (pv 4) pa_nil)))
      (pss_cons (ps_asg (pv 2) (pg_tup (by rfl) (pgs_cons (pg_name (i := 8) nd rfl (.inl rfl)) (pgs_cons (pg_name (i := 9) nd rfl (.inl rfl)) (pgs_cons (pg_name (i := 10) nd rfl (.inl rfl)) (pgs_cons (pg_name (i := 11) nd rfl (.inl rfl)) pgs_nil))))))
      (C8.pss_cut (ps_if (pt_cmpR op_eq (pv 8) (C8.pe_gc rfl T.v_OUTSIDE) (nomark _)) (pss_one (ps_aug (i := 3) nd rfl (.inl rfl) pe_int ip_add))
          (pss_one (ps_if (pt_cmpR op_eq (pv 9) (C8.pe_gc rfl T.v_LEFT) (nomark _)) (pss_one (ps_asg (pe_slice sl_tupA (pe_ix ix_list (pv 7) (pv 8) (fun _ _ => rfl)) (po_some pe_int) po_none) (pg_sub (pv 7) (pv 8) set_list)))
            (pss_one (ps_asg (pe_slice sl_tupA (pe_ix ix_list (pv 7) (pv 8) (fun _ _ => rfl)) po_none (po_some (pe_un un_neg pe_int))) (pg_sub (pv 7) (pv 8) set_list))))))
      (C8.pss_cut (ps_if (pt_cmpR op_eq (pv 10) (C8.pe_gc rfl T.v_OUTSIDE) (nomark _)) (pss_one (ps_set (i := 5) nd rfl (Or.inl rfl) (pe_op op_catA (pv 5) (pe_tup (pa_cons (pv 6) pa_nil)))))
          (pss_one (ps_if (pt_cmpR op_eq (pv 11) (C8.pe_gc rfl T.v_LEFT) (nomark _)) (pss_one (ps_asg (pe_op op_catA (pe_tup (pa_cons (pv 6) pa_nil)) (pe_ix ix_list (pv 7) (pv 10) (fun _ _ => rfl))) (pg_sub (pv 7) (pv 10) set_list)))
            (pss_one (ps_asg (pe_op op_catA (pe_ix ix_list (pv 7) (pv 10) (fun _ _ => rfl)) (pe_tup (pa_cons (pv 6) pa_nil))) (pg_sub (pv 7) (pv 10) set_list))))))
      (pss_one (ps_ret (pe_tup (pa_cons (pv 3) (pa_cons (pe_tupleOf (by rfl) T.z_tuple (pv 7)) (pa_cons (pv 5) pa_nil))))))))))), ?_⟩
    obtain ⟨a, b, c, hs, rfl, h1, h2, h3, h4⟩ := id hS
    obtain ⟨ma, rfl, hm⟩ := id hM
    have hhl : hs.length = st.held.length := Paired.length h3
    refine ⟨_, rfl, a, _, rfl, SqT.of h1, rfl, _, _, rfl, _, _, rfl, _, _, rfl, rfl, ?_⟩
    refine ⟨_, rfl, _, rfl, _, rfl, _, _, _, row, st, m, rfl, hR, hS, hM, ok, ?_⟩
    refine ⟨_, rfl, b, hs, rfl, .inr (SqT.of h2), fun p hp => ?_⟩
    have s1 : Same H (upd H p (.lst hs)) := Same.new hp
    refine ⟨_, rfl, ma, _, rfl, SqT.of (s1 _ _ hm), rfl, _, _, rfl, _, _, rfl, _, _, rfl, _, _, rfl, rfl, ?_⟩
    -- behind the first if
    refine ⟨fun σ' H' => σ' = [some u, some (.ref a), some (.ref ma), some (.int (((YM.aft row st m).came : Nat) : Int)), some (.ref b), some (.ref c), some (.int (YM.wagon row st m)), some (.ref p), some (.int m.1), some (.int m.2.1), some (.int m.2.2.1), some (.int m.2.2.2)] ∧
      Same H H' ∧ ∃ hs1, H' p = some (.lst hs1) ∧ HeldAt H' hs1 (YM.out1 st m), ?_, ?_⟩
    · refine ⟨_, rfl, rfl, _, rfl, ?_⟩
      rcases ok.src with ⟨e, hc⟩ | ⟨h0, hlt, hne⟩
      · rw [e, decide_eq_true rfl]
        refine iteT ?_
        refine ⟨_, rfl, _, _, rfl, rfl, ?_, s1, hs, upd_same, ?_⟩
        · show _ = [some u, some (.ref a), some (.ref ma), some (.int (((if m.1 = -1 then st.came + 1 else st.came : Nat) : Nat) : Int)), some (.ref b), some (.ref c), some (.int (YM.wagon row st m)), some (.ref p), some (.int (-1)), some (.int m.2.1), some (.int m.2.2.1), some (.int m.2.2.2)]
          rw [if_pos e]
          rfl
        · unfold YM.out1
          rw [if_pos e]
          exact h3.keep (Same.keepT s1)
      · have hm1 : m.1 ≠ -1 := by omega
        have ec : (YM.aft row st m).came = st.came := by
          show (if m.1 = -1 then st.came + 1 else st.came) = st.came
          rw [if_neg hm1]
        rw [decide_eq_false (by intro q; injection q with q; exact hm1 q), ec]
        refine iteF ?_
        obtain ⟨x, hx, ⟨q, rfl, hq⟩⟩ := Paired.at h3 (getD_get (d := []) hlt)
        have hne' : (st.held.getD m.1.toNat []).map V.int ≠ [] := fun z => hne (List.map_eq_nil_iff.mp z)
        have hq1 := s1 _ _ hq
        have hlen : m.1.toNat < hs.length := by omega
        have eo : YM.out1 st m = st.held.set m.1.toNat (YM.cutAt (st.held.getD m.1.toNat []) m.2.1) := by
          unfold YM.out1
          rw [if_neg hm1]
        refine ⟨_, rfl, rfl, _, rfl, ?_⟩
        by_cases he : m.2.1 = 0
        · rw [he, decide_eq_true rfl]
          refine iteT ?_
          obtain ⟨n1, n2⟩ := cut_one hne'
          refine ⟨_, rfl, _, rfl, p, hs, m.1, .ref q, rfl, rfl, SqL.of upd_same, atI_of h0 hx, 1, rfl, q, _, rfl, SqT.of hq1, fun z => absurd z n1, fun _ r hr' => ?_⟩
          rw [n2]
          have hpr : p ≠ r := ne_of_none upd_same hr'
          refine ⟨_, rfl, _, rfl, p, hs, m.1, m.1.toNat, rfl, rfl, (by rw [upd_ne hpr]; exact upd_same), ixN_of h0 hlen, rfl, ?_, _, upd_same, ?_⟩
          · exact Same.put (Same.add s1 hr') hp
          · have kt : KeepT H (upd (upd (upd H p (.lst hs)) r (.tup (((st.held.getD m.1.toNat []).map V.int).drop 1))) p (.lst (hs.set m.1.toNat (.ref r)))) := Same.keepT (Same.put (Same.add s1 hr') hp)
            rw [eo]
            refine Paired.set ?_ _ (h3.keep kt)
            refine ⟨r, rfl, ?_⟩
            rw [upd_ne hpr.symm, upd_same, ← vcut, if_pos he]
        · rw [decide_eq_false (by intro q; injection q with q; exact he q)]
          refine iteF ?_
          obtain ⟨n1, n2⟩ := cut_last hne'
          refine ⟨_, rfl, _, rfl, p, hs, m.1, .ref q, rfl, rfl, SqL.of upd_same, atI_of h0 hx, 1, rfl, -1, rfl, q, _, rfl, SqT.of hq1, fun z => absurd z n1, fun _ r hr' => ?_⟩
          rw [n2]
          have hpr : p ≠ r := ne_of_none upd_same hr'
          refine ⟨_, rfl, _, rfl, p, hs, m.1, m.1.toNat, rfl, rfl, (by rw [upd_ne hpr]; exact upd_same), ixN_of h0 hlen, rfl, ?_, _, upd_same, ?_⟩
          · exact Same.put (Same.add s1 hr') hp
          · have kt : KeepT H (upd (upd (upd H p (.lst hs)) r (.tup ((st.held.getD m.1.toNat []).map V.int).dropLast)) p (.lst (hs.set m.1.toNat (.ref r)))) := Same.keepT (Same.put (Same.add s1 hr') hp)
            rw [eo]
            refine Paired.set ?_ _ (h3.keep kt)
            refine ⟨r, rfl, ?_⟩
            rw [upd_ne hpr.symm, upd_same, ← vcut, if_neg he]
    · rintro σ' H' ⟨rfl, s2, hs1, hp1, hh1⟩
      have hol : (YM.out1 st m).length = st.held.length := YM.out1_len st m
      have hl1 : hs1.length = st.held.length := by rw [← hol]; exact Paired.length hh1
      -- behind the second if
      refine ⟨fun σ' H' => ∃ vg, σ' = [some u, some (.ref a), some (.ref ma), some (.int (((YM.aft row st m).came : Nat) : Int)), some (.ref b), some vg, some (.int (YM.wagon row st m)), some (.ref p), some (.int m.1), some (.int m.2.1), some (.int m.2.2.1), some (.int m.2.2.2)] ∧
        Same H H' ∧ IntsAt H' vg (YM.aft row st m).gone ∧ ∃ hs2, H' p = some (.lst hs2) ∧ HeldAt H' hs2 (YM.aft row st m).held, ?_, ?_⟩
      · refine ⟨_, rfl, rfl, _, rfl, ?_⟩
        rcases ok.tgt with e | ⟨h0, hlt⟩
        · rw [e, decide_eq_true rfl]
          refine iteT ?_
          refine ⟨_, rfl, _, rfl, by show 1 ≤ sizeLine; decide, fun t ht => ?_⟩
          have eg : (YM.aft row st m).gone = st.gone ++ [YM.wagon row st m] := by
            show (if m.2.2.1 = -1 then _ else _) = _
            rw [if_pos e]
          have eh : (YM.aft row st m).held = YM.out1 st m := by
            show (if m.2.2.1 = -1 then _ else _) = _
            rw [if_pos e]
          rw [eg, eh]
          have hc1 : (upd H' t (.tup [.int (YM.wagon row st m)])) c = some (.tup (st.gone.map V.int)) := by
            rw [upd_ne (ne_of_none (s2 _ _ h4) ht)]
            exact s2 _ _ h4
          have hpt : p ≠ t := ne_of_none hp1 ht
          refine ⟨c, t, _, _, rfl, rfl, SqT.of hc1, SqT.of upd_same, Nat.le_trans (show ((st.gone.map V.int).length + 1) ≤ 100000 by rw [lenVI]; omega) (by decide), fun h0 => ?_, (fun _ z => nomatch z), fun hne _ r hr' => ?_⟩
          · have h0' : st.gone = [] := List.map_eq_nil_iff.mp h0
            refine ⟨.ref t, rfl, Same.add s2 ht, ⟨t, rfl, ?_⟩, hs1, (by rw [upd_ne hpt]; exact hp1), hh1.keep (KeepT.new ht)⟩
            rw [upd_same, h0']
            rfl
          · have hpr : p ≠ r := ne_of_none (show upd H' t (.tup [.int (YM.wagon row st m)]) p = some (.lst hs1) by rw [upd_ne hpt]; exact hp1) hr'
            refine ⟨.ref r, rfl, Same.add (Same.add s2 ht) hr', ⟨r, rfl, ?_⟩, hs1, (by rw [upd_ne hpr, upd_ne hpt]; exact hp1), hh1.keep ((KeepT.new ht).trans (KeepT.new hr'))⟩
            rw [upd_same, List.map_append]
            rfl
        · have hm1 : m.2.2.1 ≠ -1 := by omega
          rw [decide_eq_false (by intro q; injection q with q; exact hm1 q)]
          refine iteF ?_
          have eg : (YM.aft row st m).gone = st.gone := by
            show (if m.2.2.1 = -1 then _ else _) = _
            rw [if_neg hm1]
          have eh : (YM.aft row st m).held = (YM.out1 st m).set m.2.2.1.toNat (YM.putAt ((YM.out1 st m).getD m.2.2.1.toNat []) m.2.2.2 (YM.wagon row st m)) := by
            show (if m.2.2.1 = -1 then _ else _) = _
            rw [if_neg hm1]
          rw [eg, eh]
          obtain ⟨x, hx, ⟨q, rfl, hq⟩⟩ := Paired.at hh1 (getD_get (d := []) (show m.2.2.1.toNat < (YM.out1 st m).length by omega))
          have hqlen : ((YM.out1 st m).getD m.2.2.1.toNat []).length ≤ 1000 := by
            have hmem : (YM.out1 st m).getD m.2.2.1.toNat [] ∈ YM.out1 st m := List.mem_of_getElem? (getD_get (d := []) (show m.2.2.1.toNat < (YM.out1 st m).length by omega))
            have all : ∀ l ∈ YM.out1 st m, l.length ≤ 1000 := fun l hl => by
              unfold YM.out1 at hl
              split at hl
              · exact hh l hl
              · rcases List.mem_or_eq_of_mem_set hl with z | z
                · exact hh l z
                · rw [z]
                  refine Nat.le_trans (YM.cutAt_len _ _) ?_
                  rw [List.getD_eq_getElem?_getD]
                  cases e : st.held[m.1.toNat]? with
                  | none => exact Nat.zero_le _
                  | some l' => exact hh l' (List.mem_of_getElem? e)
            exact all _ hmem
          have hlen : m.2.2.1.toNat < hs1.length := by omega
          refine ⟨_, rfl, rfl, _, rfl, ?_⟩
          by_cases he : m.2.2.2 = 0
          · rw [he, decide_eq_true rfl]
            refine iteT ?_
            refine ⟨_, rfl, by show 1 ≤ sizeLine; decide, fun t ht => ?_⟩
            have hpt : p ≠ t := ne_of_none hp1 ht
            have hqt : q ≠ t := ne_of_none hq ht
            have hp2 : upd H' t (.tup [.int (YM.wagon row st m)]) p = some (.lst hs1) := by rw [upd_ne hpt]; exact hp1
            refine ⟨_, rfl, _, rfl, p, hs1, m.2.2.1, .ref q, rfl, rfl, SqL.of hp2, atI_of h0 hx, t, q, _, _, rfl, rfl, SqT.of upd_same, SqT.of (by rw [upd_ne hqt]; exact hq), Nat.le_trans (show (1 + (((YM.out1 st m).getD m.2.2.1.toNat []).map V.int).length) ≤ 100000 by rw [lenVI]; omega) (by decide), (fun z => nomatch z), fun _ h0' => ?_, fun _ hne r hr' => ?_⟩
            · have h0'' : (YM.out1 st m).getD m.2.2.1.toNat [] = [] := List.map_eq_nil_iff.mp h0'
              refine ⟨_, rfl, _, rfl, p, hs1, m.2.2.1, m.2.2.1.toNat, rfl, rfl, hp2, ixN_of h0 hlen, .ref c, rfl, Same.put (Same.add s2 ht) hp, ⟨c, rfl, Same.put (Same.add s2 ht) hp _ _ h4⟩, _, upd_same, ?_⟩
              have kt : KeepT H' (upd (upd H' t (.tup [.int (YM.wagon row st m)])) p (.lst (hs1.set m.2.2.1.toNat (.ref t)))) := (KeepT.new ht).trans (KeepT.put hp2 (by intro _ q; cases q))
              refine Paired.set ?_ _ (hh1.keep kt)
              refine ⟨t, rfl, ?_⟩
              rw [upd_ne hpt.symm, upd_same, h0'']
              unfold YM.putAt
              rw [if_pos rfl]
              rfl
            · have hpr : p ≠ r := ne_of_none hp2 hr'
              have hp3 : upd (upd H' t (.tup [.int (YM.wagon row st m)])) r (.tup ([.int (YM.wagon row st m)] ++ ((YM.out1 st m).getD m.2.2.1.toNat []).map V.int)) p = some (.lst hs1) := by rw [upd_ne hpr]; exact hp2
              refine ⟨_, rfl, _, rfl, p, hs1, m.2.2.1, m.2.2.1.toNat, rfl, rfl, hp3, ixN_of h0 hlen, .ref c, rfl, Same.put (Same.add (Same.add s2 ht) hr') hp, ⟨c, rfl, Same.put (Same.add (Same.add s2 ht) hr') hp _ _ h4⟩, _, upd_same, ?_⟩
              refine Paired.set ?_ _ (hh1.keep (((KeepT.new ht).trans (KeepT.new hr')).trans (KeepT.put hp3 (by intro _ q; cases q))))
              refine ⟨r, rfl, ?_⟩
              rw [upd_ne hpr.symm, upd_same]
              unfold YM.putAt
              rw [if_pos rfl]
              rfl
          · rw [decide_eq_false (by intro q; injection q with q; exact he q)]
            refine iteF ?_
            refine ⟨_, rfl, _, rfl, p, hs1, m.2.2.1, .ref q, rfl, rfl, SqL.of hp1, atI_of h0 hx, ?_⟩
            refine ⟨_, rfl, by show 1 ≤ sizeLine; decide, fun t ht => ?_⟩
            have hpt : p ≠ t := ne_of_none hp1 ht
            have hqt : q ≠ t := ne_of_none hq ht
            have hp2 : upd H' t (.tup [.int (YM.wagon row st m)]) p = some (.lst hs1) := by rw [upd_ne hpt]; exact hp1
            refine ⟨q, t, _, _, rfl, rfl, SqT.of (by rw [upd_ne hqt]; exact hq), SqT.of upd_same, Nat.le_trans (show ((((YM.out1 st m).getD m.2.2.1.toNat []).map V.int).length + 1) ≤ 100000 by rw [lenVI]; omega) (by decide), fun h0' => ?_, (fun _ z => nomatch z), fun hne _ r hr' => ?_⟩
            · have h0'' : (YM.out1 st m).getD m.2.2.1.toNat [] = [] := List.map_eq_nil_iff.mp h0'
              refine ⟨_, rfl, _, rfl, p, hs1, m.2.2.1, m.2.2.1.toNat, rfl, rfl, hp2, ixN_of h0 hlen, .ref c, rfl, Same.put (Same.add s2 ht) hp, ⟨c, rfl, Same.put (Same.add s2 ht) hp _ _ h4⟩, _, upd_same, ?_⟩
              refine Paired.set ?_ _ (hh1.keep ((KeepT.new ht).trans (KeepT.put hp2 (by intro _ q; cases q))))
              refine ⟨t, rfl, ?_⟩
              rw [upd_ne hpt.symm, upd_same, h0'']
              unfold YM.putAt
              rw [if_neg he]
              rfl
            · have hpr : p ≠ r := ne_of_none hp2 hr'
              have hp3 : upd (upd H' t (.tup [.int (YM.wagon row st m)])) r (.tup (((YM.out1 st m).getD m.2.2.1.toNat []).map V.int ++ [.int (YM.wagon row st m)])) p = some (.lst hs1) := by rw [upd_ne hpr]; exact hp2
              refine ⟨_, rfl, _, rfl, p, hs1, m.2.2.1, m.2.2.1.toNat, rfl, rfl, hp3, ixN_of h0 hlen, .ref c, rfl, Same.put (Same.add (Same.add s2 ht) hr') hp, ⟨c, rfl, Same.put (Same.add (Same.add s2 ht) hr') hp _ _ h4⟩, _, upd_same, ?_⟩
              refine Paired.set ?_ _ (hh1.keep (((KeepT.new ht).trans (KeepT.new hr')).trans (KeepT.put hp3 (by intro _ q; cases q))))
              refine ⟨r, rfl, ?_⟩
              rw [upd_ne hpr.symm, upd_same]
              unfold YM.putAt
              rw [if_neg he, List.map_append]
              rfl
      · rintro σ' H' ⟨vg, rfl, s3, ⟨g, rfl, hg3⟩, hs2, hp2, hh2⟩
        refine ⟨_, rfl, _, rfl, .inl ⟨p, hs2, rfl, SqL.of hp2, fun t ht => ?_⟩⟩
        refine ⟨_, rfl, by show 3 ≤ sizeLine; decide, fun r hr' => ?_⟩
        have k1 : KeepT H' (upd H' t (.tup hs2)) := KeepT.new ht
        have k2 : KeepT (upd H' t (.tup hs2)) (upd (upd H' t (.tup hs2)) r (.tup [.int (((YM.aft row st m).came : Nat) : Int), .ref t, .ref g])) := KeepT.new hr'
        exact k _ _ (Same.add (Same.add s3 ht) hr') ⟨r, t, g, hs2, rfl, upd_same, k2 _ _ upd_same, hh2.keep (k1.trans k2), k2 _ _ (k1 _ _ hg3)⟩
end
end YW
/-! sorted of tuples of ints of one length, of any sign -/
namespace YW
open PySem PySem.Spec PyProof.Rows L2
section
variable {prog : Program} {w : World} {A : Around} {E : Value → Shared → Prop} {s : Shared} {Q : Bool → Shared → Prop}
theorem lex_asym : ∀ x y : List Int, HT.lexLt x y = true → HT.lexLt y x = false
  | [], [], h => by simp [HT.lexLt] at h
  | [], _ :: _, _ => rfl
  | _ :: _, [], h => by simp [HT.lexLt] at h
  | a :: x, b :: y, h => by
    unfold HT.lexLt at h ⊢
    by_cases e : a = b
    · rw [if_pos e] at h
      rw [if_pos e.symm]
      exact lex_asym x y h
    · rw [if_neg e] at h
      rw [if_neg (fun q => e q.symm)]
      have := of_decide_eq_true h
      exact decide_eq_false (by omega)
theorem lex_tr : ∀ x y z : List Int, HT.lexLt y x = false → HT.lexLt z y = false → HT.lexLt z x = false
  | x, y, [], h1, h2 => by
    cases y with
    | cons b y => simp [HT.lexLt] at h2
    | nil =>
      cases x with
      | nil => rfl
      | cons a x => simp [HT.lexLt] at h1
  | [], _, _ :: _, _, _ => rfl
  | a :: x, [], _ :: _, h1, _ => by simp [HT.lexLt] at h1
  | a :: x, b :: y, c :: z, h1, h2 => by
    unfold HT.lexLt at h1 h2 ⊢
    by_cases e1 : b = a
    · rw [if_pos e1] at h1
      by_cases e2 : c = b
      · rw [if_pos e2] at h2
        rw [if_pos (e2.trans e1)]
        exact lex_tr x y z h1 h2
      · rw [if_neg e2] at h2
        have := of_decide_eq_false h2
        rw [if_neg (by omega)]
        exact decide_eq_false (by omega)
    · rw [if_neg e1] at h1
      have q1 := of_decide_eq_false h1
      by_cases e2 : c = b
      · rw [if_neg (by omega)]
        exact decide_eq_false (by omega)
      · rw [if_neg e2] at h2
        have q2 := of_decide_eq_false h2
        rw [if_neg (by omega)]
        exact decide_eq_false (by omega)
theorem swo_lexT (k : Value → List Int) : SrtO.Swo fun v u => HT.lexLt (k v) (k u) := ⟨fun x y h => lex_asym _ _ h, fun x y z h1 h2 => lex_tr _ _ _ h1 h2⟩
theorem kat_ints {b : Bool} {xs ys : List Value} {ns ms : List Int} (i : Nat) (hx : IntsAre xs ns) (hy : IntsAre ys ms) (hl : ns.length = ms.length) (h : Q (HT.lexLt ns ms) s) : PySem.W.KatLex prog w A b false Q (xs.zip ys) i s := by
  induction hx generalizing ys ms i with
  | nil =>
    cases hy with
    | nil => exact PySem.W.kat_nil h
    | cons q u hy => simp at hl
  | @cons p t xs ns hx ih =>
    cases hy with
    | nil => simp at hl
    | @cons q u ys ms hy =>
      have hl' : ns.length = ms.length := by simpa using hl
      show PySem.W.KatLex prog w A b false Q ((Value.int p t, Value.int q u) :: xs.zip ys) i s
      refine PySem.W.kat_cons (wpAny_eqBool_int ?_)
      unfold HT.lexLt at h
      by_cases e : p = q
      · rw [if_pos e] at h
        rw [beq_iff_eq.mpr e]
        refine PySem.W.kat_yes ?_
        first
          | exact ih (i + 1) hy hl' h
          | exact ih _ _ (i + 1) hy hl' h
      · rw [if_neg e] at h
        rw [show (p == q) = false from beq_eq_false_iff_ne.mpr e]
        exact PySem.W.kat_no (TS.oneLt_ints _ h)
def TupsL (h : Heap) (d : Nat) (vs : List Value) : Prop := ∀ v, v ∈ vs → ∃ ns, TS.TupInts h v ns ∧ ns.length = d
theorem firsts_ofL {h : Heap} {d : Nat} (hd : 1 ≤ d) : ∀ vs : List Value, TupsL h d vs → ∃ fs, PySem.W.KatTups h vs fs ∧ fs.length = vs.length ∧ ∀ f, f ∈ fs → ∃ n t, f = Value.int n t
  | [], _ => ⟨[], PySem.W.KatTups.nil, rfl, fun f hf => by simp at hf⟩
  | v :: vs, x => by
    obtain ⟨fs, k, hl, hi⟩ := firsts_ofL hd vs fun u hu => x u (List.mem_cons_of_mem _ hu)
    obtain ⟨ns, ⟨a, xs, rfl, ⟨o, ho, hc, n, hdt⟩, i⟩, hn⟩ := x v (List.mem_cons_self ..)
    cases q : xs.toList with
    | nil =>
      rw [q] at i
      have l := i.length
      rw [List.length_nil, hn] at l
      omega
    | cons y ys =>
      obtain ⟨m, t, hy⟩ := i.all y (by rw [q]; exact List.mem_cons_self ..)
      refine ⟨y :: fs, PySem.W.KatTups.cons ho hc hdt ?_ k, by simp [hl], fun f hf => ?_⟩
      · have z := congrArg (fun l : List Value => l[0]?) q
        simpa using z
      · rcases List.mem_cons.mp hf with rfl | hf
        · exact ⟨m, t, hy⟩
        · exact hi f hf
theorem tups_sortL {a : Addr} {vs : List Value} {d : Nat} {k : Value → List Int} (hd : 1 ≤ d) (h0 : 0 < vs.length) (hp : TupsL s.heap d vs) (hk : ∀ v ∈ vs, ∀ ns, TS.TupInts s.heap v ns → k v = ns) (ha : ∀ o, s.heap.get? a = some o → o.cls ≠ .type "tuple") :
    SrtO.SortableO prog w A s a vs fun v u => HT.lexLt (k v) (k u) := by
  intro h' keep
  have kp : ∀ b o, s.heap.get? b = some o → o.cls = .type "tuple" → h'.get? b = some o := fun b o e c => keep b o (fun z => by subst z; exact ha o e c) e
  have hp' : TupsL h' d vs := fun v hv => let ⟨ns, t, r⟩ := hp v hv; ⟨ns, t.keeps kp, r⟩
  obtain ⟨fs, h1, h2, h3⟩ := firsts_ofL hd vs hp'
  refine ⟨tuples' true, fun Q E hq => ?_, fun p q hm hm' => ?_⟩
  · refine PySem.W.kat_kind (T := .type "int") h1 (by omega) (fun f hm => ?_) (by rfl) ?_
    · obtain ⟨x, t, rfl⟩ := h3 f hm
      exact PySem.W.Looks.now
    · have e : (Value.type "int" != Value.type "tuple") = true := by first | decide +kernel | rfl | decide
      rw [e]
      exact hq
  · obtain ⟨ns, tp, lp⟩ := hp _ hm
    obtain ⟨ms, tq, lq⟩ := hp _ hm'
    have ep := hk _ hm _ tp
    have eq2 := hk _ hm' _ tq
    show wpAny (model prog w) A (keyLt' (tuples' true) p.1 q.1) (fun r s' => s' = _ ∧ r = HT.lexLt (k p.1) (k q.1)) (fun _ _ => False) _
    rw [ep, eq2]
    obtain ⟨a1, xs, e1, ⟨o, ho, hc, n, hdt⟩, i⟩ := tp.keeps kp
    obtain ⟨a2, ys, e2, ⟨o', ho', hc', n', hdt'⟩, i'⟩ := tq.keeps kp
    rw [e1, e2]
    refine PySem.W.kat_lt (s := { s with heap := h' }) ho hdt ho' hdt' ?_
    have sz : decide (xs.size < ys.size) = false := by
      have l1 := i.length
      have l2 := i'.length
      rw [Array.length_toList] at l1 l2
      exact decide_eq_false (by omega)
    rw [sz]
    exact kat_ints 0 i i' (by omega) ⟨rfl, rfl⟩
end
section
variable {X : Cx}
/-- sorted(xs), xs a list of tuples of d ints: a new list of the same tuples, in some order -/
def rSortL (K : PySem.W.Frag) (d : Nat) : List V → Hp → VK → Prop := fun vs H Q => ∃ (a : Addr) (xs : List V), vs = [V.ref a] ∧ SqL K H a xs ∧ (∀ x ∈ xs, ∃ ns, TupI K H x ns ∧ ns.length = d) ∧
  ∀ (ys : List V) (p : Addr), ys.Perm xs → H p = none → Q (.ref p) (upd H p (.lst ys))
theorem cr_sortL {d : Nat} (hd : 1 ≤ d) : CallR X (.builtin "sorted") (rSortL X.K d) := by
  intro pins s σ H vs us Q I r h
  obtain ⟨a, xs, rfl, hs, hx, q⟩ := h
  obtain ⟨its, rv, hl, hz⟩ := I.list hs
  obtain ⟨u, rfl, ru⟩ := vals1 r
  obtain rfl : u = Value.ref a := ru
  obtain ⟨e1, e2⟩ := bkV_refs rv fun x m => by
    obtain ⟨ns, ⟨t, e, _⟩, _⟩ := hx x m
    exact ⟨t, e⟩
  have hp : TupsL s.heap d its := fun v hv => by
    obtain ⟨t, rfl⟩ := e2 v hv
    have hm : V.ref t ∈ xs := by rw [e1]; exact List.mem_map.mpr ⟨_, hv, rfl⟩
    obtain ⟨ns, ⟨t', e, ht⟩, hn⟩ := hx _ hm
    cases e
    exact ⟨ns, tupI_raw I ht, hn⟩
  refine SrtO.sorted_ord (swo_lexT fun v => TS.intsOf s.heap v) hl.isList (by rw [← rv.length]; exact hz) (fun h2 h₁ a1 ha kk => ?_) fun out h1 h2 => ?_
  · refine tups_sortL (s := { s with heap := h₁ }) hd (by omega) (fun v hv => let ⟨ns, t, r⟩ := hp v hv; ⟨ns, t.keeps fun b o e _ => (kk b o e).2, r⟩) (fun v hv ns t => ?_) fun o e => ?_
    · obtain ⟨ns0, t0, _⟩ := hp v hv
      have e : ns = ns0 := t.ints.symm.trans (t0.keeps fun b o e _ => (kk b o e).2).ints
      rw [e]
      exact t0.ints
    · have e' := e.symm.trans ha
      cases e'
      intro c
      exact absurd (Value.type.inj c) (by decide)
  · obtain ⟨ep, he'⟩ := PyProof.Rows.sortedAll_at s.heap its out.toArray
    have h3 : ∀ u ∈ out, ∃ a, u = Value.ref a := fun u hu => e2 u (h2.perm.mem_iff.mp hu)
    have hp : (out.map bkV).Perm xs := by
      rw [e1]
      exact h2.perm.map bkV
    refine ⟨.ref _, upd H (s.heap.objs.size + 1) (.lst (out.map bkV)), I.laid (t' := s.toks) (fun _ _ => PyProof.Rows.sortedAll_old) (Nat.le_succ _) ⟨by rw [hp.length_eq]; exact hz, out, ep, bkV_vals h3, by simpa using he'⟩, rfl, q _ _ hp (I.hok.fresh (Nat.le_succ _))⟩
end
end YW
namespace YW
open PySem L2
/-- what stays while the tuples stay -/
def Keeps {α : Type} (F : Hp → V → α → Prop) : Prop := ∀ (H H' : Hp) (v : V) (a : α), KeepT H H' → F H v a → F H' v a
theorem keepMv : Keeps MvAt := fun _ _ _ _ k q => MvAt.keep k q
theorem keepSit : Keeps SitAt := fun _ _ _ _ k q => SitAt.keep k q
theorem keepLink : Keeps LinkAt := fun _ _ _ _ k q => LinkAt.keep k q
/-- a list made here, of data ms -/
def Acc {α : Type} (F : Hp → V → α → Prop) (H H' : Hp) (D : Addr) (ms : List α) : Prop := Same H H' ∧ H D = none ∧ ∃ xs, H' D = some (.lst xs) ∧ Paired (F H') xs ms
theorem Acc.new {α : Type} {F : Hp → V → α → Prop} (kf : Keeps F) {H H' : Hp} {D p : Addr} {o : HO} {ms : List α} (h : Acc F H H' D ms) (hp : H' p = none) : Acc F H (upd H' p o) D ms := by
  obtain ⟨s, d, xs, e, r⟩ := h
  exact ⟨Same.add s hp, d, xs, by rw [upd_ne (ne_of_none e hp)]; exact e, Paired.mapP r fun _ _ q => kf _ _ _ _ (KeepT.new hp) q⟩
theorem Acc.same {α : Type} {F : Hp → V → α → Prop} (kf : Keeps F) {H H' H2 : Hp} {D : Addr} {ms : List α} (h : Acc F H H' D ms) (s2 : Same H' H2) : Acc F H H2 D ms := by
  obtain ⟨s, d, xs, e, r⟩ := h
  exact ⟨s.trans s2, d, xs, s2 _ _ e, Paired.mapP r fun _ _ q => kf _ _ _ _ (Same.keepT s2) q⟩
theorem Acc.app {α : Type} {F : Hp → V → α → Prop} (kf : Keeps F) {H H' : Hp} {D : Addr} {ms : List α} (h : Acc F H H' D ms) {xs : List V} (e : H' D = some (.lst xs)) {v : V} {a : α} (hv : F H' v a) : Acc F H (upd H' D (.lst (xs ++ [v]))) D (ms ++ [a]) := by
  obtain ⟨s, d, xs', e', r⟩ := h
  rw [e] at e'
  cases e'
  have kt : KeepT H' (upd H' D (.lst (xs ++ [v]))) := KeepT.put e (by intro _ q; cases q)
  exact ⟨Same.put s d, d, _, upd_same, Paired.snoc (Paired.mapP r fun _ _ q => kf _ _ _ _ kt q) (kf _ _ _ _ kt hv)⟩
def movesOf (Y : YM.Yard) (n : Nat) (s : YM.Sit) (lks : List (Int × Int)) : List YM.Mv :=
  lks.flatMap fun l => (YM.srcEnds Y n s l.1).flatMap fun o => (YM.tgtEnds Y s l.2).map fun e => (l.1, o, l.2, e)
theorem mem_moves {Y : YM.Yard} {n : Nat} {s : YM.Sit} {lks : List (Int × Int)} (hp : lks.Perm Y.links) {m : YM.Mv} : m ∈ movesOf Y n s lks ↔ YM.Can Y n s m := by
  unfold movesOf YM.Can
  simp only [List.mem_flatMap, List.mem_map]
  constructor
  · rintro ⟨l, hl, o, ho, e, he, rfl⟩
    exact ⟨hp.mem_iff.mp hl, ho, he⟩
  · rintro ⟨h1, h2, h3⟩
    exact ⟨(m.1, m.2.2.1), hp.mem_iff.mpr h1, m.2.1, h2, m.2.2.2, h3, rfl⟩
theorem srcEnds_le (Y : YM.Yard) (n : Nat) (s : YM.Sit) (d : Int) : (YM.srcEnds Y n s d).length ≤ 2 ∧ ∀ e ∈ YM.srcEnds Y n s d, e = 0 ∨ e = 1 := by
  unfold YM.srcEnds
  split
  · split <;> simp
  · split
    · simp
    · cases Y.kind d.toNat <;> simp [YM.Kd.outs]
theorem tgtEnds_le (Y : YM.Yard) (s : YM.Sit) (d : Int) : (YM.tgtEnds Y s d).length ≤ 2 ∧ ∀ e ∈ YM.tgtEnds Y s d, e = 0 ∨ e = 1 := by
  unfold YM.tgtEnds
  split
  · simp
  · split
    · cases Y.kind d.toNat <;> simp [YM.Kd.ins]
    · simp
theorem flatMap_len {α β : Type} (f : α → List β) (k : Nat) (h : ∀ a, (f a).length ≤ k) : ∀ l : List α, (l.flatMap f).length ≤ l.length * k
  | [] => by simp
  | a :: l => by
    have := flatMap_len f k h l
    have := h a
    rw [List.flatMap_cons, List.length_append, List.length_cons, Nat.add_mul]
    omega
theorem moves_len (Y : YM.Yard) (n : Nat) (s : YM.Sit) (lks : List (Int × Int)) : (movesOf Y n s lks).length ≤ lks.length * 4 := by
  refine flatMap_len _ 4 (fun l => ?_) lks
  have h1 := srcEnds_le Y n s l.1
  have h2 := tgtEnds_le Y s l.2
  refine Nat.le_trans (flatMap_len _ 2 (fun o => ?_) _) (by omega)
  rw [List.length_map]
  exact h2.1
theorem take_succ_get {α : Type} {l : List α} {i : Nat} {x : α} (h : l[i]? = some x) : l.take (i + 1) = l.take i ++ [x] := by
  rw [List.take_succ, h]
  rfl
theorem moves_take {Y : YM.Yard} {n : Nat} {s : YM.Sit} {lks : List (Int × Int)} {i : Nat} {l : Int × Int} (h : lks[i]? = some l) :
    movesOf Y n s (lks.take (i + 1)) = movesOf Y n s (lks.take i) ++ ((YM.srcEnds Y n s l.1).flatMap fun o => (YM.tgtEnds Y s l.2).map fun e => (l.1, o, l.2, e)) := by
  unfold movesOf
  rw [take_succ_get h, List.flatMap_append]
  simp
theorem Paired.get {α β : Type} {F : α → β → Prop} : ∀ {l : List α} {r : List β}, Paired F l r → ∀ {k : Nat} {x : α}, l[k]? = some x → ∃ y, r[k]? = some y ∧ F x y
  | _, _, .nil, _, _, h => by simp at h
  | _, _, .cons h t, 0, x, e => by
    cases e
    exact ⟨_, rfl, h⟩
  | _, _, .cons h t, k + 1, x, e => by
    obtain ⟨y, h1, h2⟩ := Paired.get t (k := k) (x := x) (by simpa using e)
    exact ⟨y, by simpa using h1, h2⟩
theorem Paired.mem {α β : Type} {F : α → β → Prop} {l : List α} {r : List β} (h : Paired F l r) {x : α} (hx : x ∈ l) : ∃ y ∈ r, F x y := by
  obtain ⟨k, hk, rfl⟩ := List.getElem_of_mem hx
  obtain ⟨y, h1, h2⟩ := Paired.get h (List.getElem?_eq_getElem hk)
  exact ⟨y, List.mem_of_getElem? h1, h2⟩
/-- the values of a permuted list -/
theorem Paired.perm {α β : Type} {F : α → β → Prop} : ∀ {l l' : List α}, l'.Perm l → ∀ {r : List β}, Paired F l r → ∃ r', Paired F l' r' ∧ r'.Perm r := by
  intro l l' hp
  induction hp with
  | nil => intro r h; cases h; exact ⟨[], .nil, .refl _⟩
  | cons x p ih =>
    intro r h
    cases h with
    | cons h t =>
      obtain ⟨r', h1, h2⟩ := ih t
      exact ⟨_ :: r', .cons h h1, h2.cons _⟩
  | swap x y l =>
    intro r h
    cases h with
    | cons h t =>
      cases t with
      | cons h2 t2 => exact ⟨_ :: _ :: _, .cons h2 (.cons h t2), List.Perm.swap ..⟩
  | trans p q ih1 ih2 =>
    intro r h
    obtain ⟨r1, h1, h2⟩ := ih2 h
    obtain ⟨r2, h3, h4⟩ := ih1 h1
    exact ⟨r2, h3, h4.trans h2⟩
section
variable {P : Program} {w : World} {K : PySem.W.Frag} {mg : Str → Option Value} {base : Heap} {CG CR CY CS dI dO dT dC : Addr}
def spPossible (K : PySem.W.Frag) (CY : Addr) : Sp := fun vs H Q _ => ∃ v u z row txt Y s, vs = [v, u, z] ∧ YardAt CY H v txt Y ∧ SqLI K H u row ∧ SitAt H z s ∧ s.held.length = Y.kinds.length ∧
  ∀ p H' xs ms, Same H H' → H p = none → H' p = some (.lst xs) → Paired (MvAt H') xs ms → (∀ m, m ∈ ms ↔ YM.Can Y row.length s m) → ms.length ≤ 24 → Q (.ref p) H'
theorem c_possible (T : Txt K w mg CG CR CY CS dI dO dT dC) : C8.Cal P w K mg base 3 "possible" (spPossible K CY) [] := by
  refine cal_of T.d_possible b_possible sc_possible (fun vs H Q E h => ?_) (fun f cdv A outer s H vs Q E hr h => ?_)
  · obtain ⟨_, _, _, _, _, _, _, rfl, _⟩ := h
    rfl
  · obtain ⟨v, u, z, row, txt, Y, st, rfl, hY, hR, hS, hlen, k⟩ := h
    have nd := sc_possible.nd
    refine ⟨_, pss_cons (ps_set (i := 3) nd rfl (Or.inl rfl) (pe_lst pa_nil))
      (pss_cons (ps_for PassesOwn.never rfl (pi_list (pe_fld (pv 0) rfl)) (pg_tup (by rfl) (pgs_cons (pg_name (i := 4) nd rfl (.inl rfl)) (pgs_cons (pg_name (i := 5) nd rfl (.inl rfl)) pgs_nil)))
        (pss_one (ps_for PassesOwn.never rfl (pi_list (C8.pe_c (c_source_ends T) hr (by decide) rfl (pa_cons (pv 0) (pa_cons (pv 1) (pa_cons (pv 2) (pa_cons (pv 4) pa_nil)))))) (pg_name (i := 6) nd rfl (Or.inl rfl))
          (pss_one (ps_for PassesOwn.never rfl (pi_list (C8.pe_c (c_target_ends T) hr (by decide) rfl (pa_cons (pv 0) (pa_cons (pv 2) (pa_cons (pv 5) pa_nil))))) (pg_name (i := 7) nd rfl (Or.inl rfl))
            (pss_one (ps_expr (pe_bm PySem.F.plainAttrs_list PySem.F.slot_list_append PySem.F.type_list_append mt_append (pv 3) (pa_cons (pe_tup (pa_cons (pv 4) (pa_cons (pv 6) (pa_cons (pv 5) (pa_cons (pv 7) pa_nil))))) pa_nil)))))))))
      (pss_one (ps_ret (pe_callB (cr_sortL (d := 4) (by decide)) (by rfl) T.z_sorted (by decide +kernel) (pa_cons (pv 3) pa_nil))))), ?_⟩
    refine ⟨Nat.zero_le _, fun D hD => ?_⟩
    have s0 : Same H (upd H D (.lst [])) := Same.new hD
    have a0 : Acc MvAt H (upd H D (.lst [])) D (movesOf Y row.length st []) := ⟨s0, hD, [], upd_same, .nil⟩
    obtain ⟨y, dx, lk, lb, ll, ls, lks, rfl, g1, g2, g3, g4, g5, g6, g7⟩ := id hY
    refine ⟨_, rfl, y, CY, dx, _, _, rfl, s0 _ _ g1, T.c_Y, T.a_Y_links, rfl, ll, rfl, ⟨ls, SqL.of (s0 _ _ g4)⟩, ?_⟩
    refine for_list (K := K) (a := ll) (xs := ls) (fun i σ H' => ∃ x1 x2 x3 x4, σ = [some (.ref y), some u, some z, some (.ref D), x1, x2, x3, x4] ∧ Acc MvAt H H' D (movesOf Y row.length st (lks.take i)))
      ⟨none, none, none, none, rfl, a0⟩ (fun i σ H' _ ⟨_, _, _, _, _, a⟩ => SqL.of (a.1 _ _ g4)) ?_ ?_
    · rintro i x σ H' hi ⟨x1, x2, x3, x4, rfl, ac⟩
      obtain ⟨l, hl, ⟨t, rfl, ht⟩⟩ := Paired.get g5 hi
      have hmem : (l.1, l.2) ∈ Y.links := g6.mem_iff.mp (List.mem_of_getElem? hl)
      have dsrc : DevOk Y l.1 := g7.lk.src _ _ hmem
      have dtgt : DevOk Y l.2 := g7.lk.tgt _ _ hmem
      refine ⟨t, _, rfl, SqT.of (ac.1 _ _ ht), rfl, _, _, rfl, _, _, rfl, rfl, ?_⟩
      -- for out in source_ends(..)
      refine ⟨_, rfl, _, rfl, _, rfl, _, rfl, _, _, _, l.1, row, txt, Y, st, rfl, hY.same ac.1, hR.same ac.1, hS.keep (Same.keepT ac.1), hlen, dsrc, fun p1 hp1 => ?_⟩
      refine ⟨p1, rfl, ⟨_, SqL.of upd_same⟩, ?_⟩
      refine for_list (K := K) (a := p1) (xs := (YM.srcEnds Y row.length st l.1).map V.int) (fun j σ H2 => ∃ x3 x4, σ = [some (.ref y), some u, some z, some (.ref D), some (.int l.1), some (.int l.2), x3, x4] ∧ H2 p1 = some (.lst ((YM.srcEnds Y row.length st l.1).map V.int)) ∧ p1 ≠ D ∧
          Acc MvAt H H2 D (movesOf Y row.length st (lks.take i) ++ ((YM.srcEnds Y row.length st l.1).take j).flatMap fun o => (YM.tgtEnds Y st l.2).map fun e => (l.1, o, l.2, e)))
        ⟨x3, x4, rfl, upd_same, fun e => (by obtain ⟨_, _, xs, e1, _⟩ := ac; rw [e, e1] at hp1; cases hp1), (by rw [List.take_zero, List.flatMap_nil, List.append_nil]; exact Acc.new keepMv ac hp1)⟩ (fun j σ H2 _ ⟨_, _, _, e, _⟩ => SqL.of e) ?_ ?_
      · rintro j o σ H2 hj ⟨x3, x4, rfl, e1, n1, ac2⟩
        rw [List.getElem?_map] at hj
        obtain ⟨o', ho', rfl⟩ := Option.map_eq_some_iff.mp hj
        -- for end in target_ends(..)
        refine ⟨_, rfl, _, rfl, _, rfl, _, _, l.2, txt, Y, st, rfl, hY.same ac2.1, hS.keep (Same.keepT ac2.1), hlen, dtgt, fun p2 hp2 => ?_⟩
        refine ⟨p2, rfl, ⟨_, SqL.of upd_same⟩, ?_⟩
        have n12 : p1 ≠ p2 := ne_of_none e1 hp2
        refine for_list (K := K) (a := p2) (xs := (YM.tgtEnds Y st l.2).map V.int) (fun q σ H3 => ∃ x4, σ = [some (.ref y), some u, some z, some (.ref D), some (.int l.1), some (.int l.2), some (.int o'), x4] ∧ H3 p1 = some (.lst ((YM.srcEnds Y row.length st l.1).map V.int)) ∧ H3 p2 = some (.lst ((YM.tgtEnds Y st l.2).map V.int)) ∧ p2 ≠ D ∧
            Acc MvAt H H3 D ((movesOf Y row.length st (lks.take i) ++ ((YM.srcEnds Y row.length st l.1).take j).flatMap fun o => (YM.tgtEnds Y st l.2).map fun e => (l.1, o, l.2, e)) ++ ((YM.tgtEnds Y st l.2).take q).map fun e => (l.1, o', l.2, e)))
          ⟨x4, rfl, (by rw [upd_ne n12]; exact e1), upd_same, fun e => (by obtain ⟨_, _, xs, e1, _⟩ := ac2; rw [e, e1] at hp2; cases hp2), (by rw [List.take_zero, List.map_nil, List.append_nil]; exact Acc.new keepMv ac2 hp2)⟩ (fun q σ H3 _ ⟨_, _, _, e, _⟩ => SqL.of e) ?_ ?_
        · rintro q e σ H3 hq ⟨x4, rfl, e2, e3, n2, ac3⟩
          rw [List.getElem?_map] at hq
          obtain ⟨e', he', rfl⟩ := Option.map_eq_some_iff.mp hq
          obtain ⟨s3, hD0, xs, hxs, hpr⟩ := id ac3
          refine ⟨_, rfl, .inl ⟨rfl, _, SqL.of hxs⟩, ?_⟩
          refine ⟨_, rfl, _, rfl, _, rfl, _, rfl, by show 4 ≤ sizeLine; decide, fun t2 ht2 => ?_⟩
          have nDt : D ≠ t2 := ne_of_none hxs ht2
          have hxs2 : upd H3 t2 (.tup [.int l.1, .int o', .int l.2, .int e']) D = some (.lst xs) := by rw [upd_ne nDt]; exact hxs
          have hxl : xs.length < sizeLine := by
            have h1 := Paired.length hpr
            have h2 : ((movesOf Y row.length st (lks.take i) ++ ((YM.srcEnds Y row.length st l.1).take j).flatMap fun o => (YM.tgtEnds Y st l.2).map fun e => (l.1, o, l.2, e)) ++ ((YM.tgtEnds Y st l.2).take q).map fun e => ((l.1, o', l.2, e) : YM.Mv)).length ≤ 1000 := by
              rw [List.length_append, List.length_append, List.length_map, List.length_take]
              have q1 := moves_len Y row.length st (lks.take i)
              have q2 : (lks.take i).length ≤ 6 := by
                rw [List.length_take]
                have := g6.length_eq
                have := g7.few
                omega
              have q3 := tgtEnds_le Y st l.2
              have q4 := srcEnds_le Y row.length st l.1
              have q5 := flatMap_len (fun o => (YM.tgtEnds Y st l.2).map fun e => ((l.1, o, l.2, e) : YM.Mv)) 2 (fun o => by rw [List.length_map]; exact q3.1) ((YM.srcEnds Y row.length st l.1).take j)
              rw [List.length_take] at q5
              omega
            exact Nat.lt_of_le_of_lt (show xs.length ≤ 1000 by rw [h1]; exact h2) (by decide)
          refine ⟨D, xs, _, rfl, rfl, hxs2, hxl, ?_⟩
          have ac4 := Acc.app keepMv (Acc.new (o := .tup [.int l.1, .int o', .int l.2, .int e']) keepMv ac3 ht2) hxs2 (v := .ref t2) (a := ((l.1, o', l.2, e') : YM.Mv)) ⟨t2, rfl, upd_same⟩
          refine ⟨_, rfl, ?_, ?_, n2, ?_⟩
          · rw [upd_ne n1, upd_ne (ne_of_none e2 ht2)]
            exact e2
          · rw [upd_ne n2, upd_ne (ne_of_none e3 ht2)]
            exact e3
          · rw [take_succ_get he', List.map_append, ← List.append_assoc]
            exact ac4
        · rintro σ H3 ⟨x4, rfl, e2, e3, n2, ac3⟩
          refine ⟨_, _, rfl, e2, n1, ?_⟩
          rw [take_succ_get ho', List.flatMap_append, ← List.append_assoc]
          rw [lenVI, List.take_length] at ac3
          simpa using ac3
      · rintro σ H2 ⟨x3, x4, rfl, e1, n1, ac2⟩
        refine ⟨_, _, _, _, rfl, ?_⟩
        rw [lenVI, List.take_length] at ac2
        rw [moves_take hl]
        exact ac2
    · rintro σ H' ⟨x1, x2, x3, x4, rfl, ac⟩
      have el : lks.take ls.length = lks := by rw [Paired.length g5, List.take_length]
      rw [el] at ac
      obtain ⟨s3, hD0, xs, hxs, hpr⟩ := ac
      have l6 : lks.length ≤ 6 := by
        have := g6.length_eq
        have := g7.few
        omega
      have hml := moves_len Y row.length st lks
      refine ⟨_, rfl, D, xs, rfl, SqL.of hxs, fun x hx => ?_, fun ys p hperm hp => ?_⟩
      · obtain ⟨m, hm, t, rfl, ht⟩ := Paired.mem hpr hx
        exact ⟨[m.1, m.2.1, m.2.2.1, m.2.2.2], ⟨t, rfl, SqT.of ht⟩, rfl⟩
      · obtain ⟨ms, h1, h2⟩ := Paired.perm hperm hpr
        exact k p _ ys ms (Same.add s3 hp) (s3.free hp) upd_same (Paired.mapP h1 fun _ _ q => MvAt.keep (KeepT.new hp) q) (fun m => h2.mem_iff.trans (mem_moves g6)) (by rw [h2.length_eq]; omega)
end
end YW
namespace YW
open PySem L2
section
variable {X : Cx}
theorem pe_disp1P (P : Program) (w : World) {k v : Expr} {pos : Pos} {tk tv : TE} (hu : X.A.units + 64 < cLine) (hk : PE X k tk) (hv : PE X v tv) (hp : X.prog = P := by rfl) (hw : X.w = w := by rfl) : PE X (.Dict [some k] [v] pos) (tDisp1 P w tk tv) := by
  subst hp hw
  exact pe_disp1 hu hk hv
theorem op_inKP (P : Program) (w : World) (hu : X.A.units + 64 < cLine) (hp : X.prog = P := by rfl) (hw : X.w = w := by rfl) : OpR X (compareOp .In) (rInK P w) := by
  subst hp hw
  exact op_inK hu
theorem set_KP (P : Program) (w : World) (hu : X.A.units + 64 < cLine) (hp : X.prog = P := by rfl) (hw : X.w = w := by rfl) : PSet X (rSetK P w) := by
  subst hp hw
  exact set_K hu
end
def sfs (yv : V) (lw lm dk lo : Addr) (fd : Bool) : List (Str × V) := [("yard", yv), ("wagons", .ref lw), ("met", .ref lm), ("known", .ref dk), ("origin", .ref lo), ("found", .bl fd)]
theorem sfs_put (yv : V) (lw lm dk lo : Addr) (fd : Bool) : putF "found" (.bl fd) (putF "origin" (.ref lo) (putF "known" (.ref dk) (putF "met" (.ref lm) (putF "wagons" (.ref lw) (putF "yard" yv []))))) = sfs yv lw lm dk lo fd := by rfl
theorem sfs_found (yv : V) (lw lm dk lo : Addr) (fd b : Bool) : putF "found" (.bl b) (sfs yv lw lm dk lo fd) = sfs yv lw lm dk lo b := by rfl
def OrgAt (H : Hp) (v : V) : Option (Nat × YM.Mv) → Prop
  | none => v = .non
  | some (i, m) => ∃ mv, TupIs H v [.int ((i : Nat) : Int), mv] ∧ MvAt H mv m
theorem keepOrg : Keeps OrgAt := fun H H' v o k q => by
  cases o with
  | none => exact q
  | some im =>
    obtain ⟨i, m⟩ := im
    obtain ⟨mv, h1, h2⟩ := q
    exact ⟨mv, h1.keep k, h2.keep k⟩
/-- the search at p, made behind H0 -/
structure SrAt (P : Program) (w : World) (CS CY : Addr) (H0 H : Hp) (p : Addr) (txt : Str) (Y : YM.Yard) (row : List Int) (met : List YM.Sit) (org : YM.Org YM.Mv) (fd : Bool) : Prop where
  same : Same H0 H
  p0 : H0 p = none
  ex : ∃ (dx : Addr) (yv : V) (lw lm dk lo : Addr) (xs os : List V) (L : Ents), H0 lw = none ∧ H0 lm = none ∧ H0 dk = none ∧ H0 lo = none ∧ lm ≠ lo ∧ lw ≠ lm ∧ lw ≠ lo ∧
    H p = some (.ins CS dx (sfs yv lw lm dk lo fd)) ∧ YardAt CY H0 yv txt Y ∧ H lw = some (.lst (row.map V.int)) ∧ H lm = some (.lst xs) ∧ Paired (SitAt H) xs met ∧ KnownAt P w H dk L ∧ L.map (·.1) = met ∧ H lo = some (.lst os) ∧ Paired (OrgAt H) os org
section
variable {P : Program} {w : World} {K : PySem.W.Frag} {mg : Str → Option Value} {base : Heap} {CG CR CY CS dI dO dT dC : Addr}
def spGoal (CS : Addr) : Sp := fun vs H Q _ => ∃ (p : Addr) (z : V) (dx : Addr) (fs : List (Str × V)) (lw : Addr) (row : List Int) (s : YM.Sit), vs = [.ref p, z] ∧ H p = some (.ins CS dx fs) ∧ fs.lookup ("wagons" : Str) = some (.ref lw) ∧ H lw = some (.lst (row.map V.int)) ∧ SitAt H z s ∧ Q (.bl (decide (s.gone.length = row.length))) H
theorem m_goal (T : Txt K w mg CG CR CY CS dI dO dT dC) : C8.Met P w K mg base 1 CS "is_goal" (spGoal CS) [] := by
  refine met_of T.c_S T.d_S_is_goal b_S_is_goal sc_S_is_goal (fun vs H Q E h => ?_) (fun f cdv A outer s H vs Q E hr h => ?_)
  · obtain ⟨_, _, _, _, _, _, _, rfl, _⟩ := h
    rfl
  · obtain ⟨p, z, dx, fs, lw, row, st, rfl, hp, hf, hl, ⟨a, b, c, hs, rfl, h1, h2, h3, h4⟩, k⟩ := h
    refine ⟨_, pss_one (ps_ret (pe_cmpR op_eq (pe_callB call_len_seq (by rfl) T.z_len PySem.boot_len (pa_cons (pe_ix ix_tup (pv 1) pe_int (fun _ _ => rfl)) pa_nil)) (pe_callB call_len_seq (by rfl) T.z_len PySem.boot_len (pa_cons (pe_fld (pv 0) rfl) pa_nil)) (nomark _))), ?_⟩
    refine ⟨_, rfl, a, _, 2, .ref c, rfl, rfl, SqT.of h1, rfl, c, _, rfl, .inr (SqT.of h4), ?_⟩
    refine ⟨_, rfl, p, CS, dx, _, _, rfl, hp, T.c_S, T.a_S_wagons, hf, lw, _, rfl, .inl (SqL.of hl), rfl, ?_⟩
    rw [lenVI, lenVI]
    show Q (.bl (decide (V.int ((st.gone.length : Nat) : Int) = V.int ((row.length : Nat) : Int)))) H
    rw [show decide (V.int ((st.gone.length : Nat) : Int) = V.int ((row.length : Nat) : Int)) = decide (st.gone.length = row.length) from decide_eq_decide.mpr ⟨fun q => by injection q with q; omega, fun q => by rw [q]⟩]
    exact k
def spSInit (P : Program) (w : World) (K : PySem.W.Frag) (CS CY : Addr) : Sp := fun vs H Q _ => ∃ (H0 : Hp) (p dx : Addr) (v u z : V) (row : List Int) (txt : Str) (Y : YM.Yard) (s : YM.Sit), vs = [.ref p, v, u, z] ∧ Same H0 H ∧ H0 p = none ∧ H p = some (.ins CS dx []) ∧ YardAt CY H0 v txt Y ∧ SqLI K H0 u row ∧ row.length ≤ 60 ∧ SitAt H0 z s ∧
  ∀ H', SrAt P w CS CY H0 H' p txt Y row [s] [none] (decide (s.gone.length = row.length)) → Q .non H'
theorem k_init (T : Txt K w mg CG CR CY CS dI dO dT dC) : C8.Mak P w K mg base 2 "Search" CS (spSInit P w K CS CY) [] := by
  refine mak_of T.g_S T.d_S_init b_S_init sc_S_init (fun vs H Q E h => ?_) (fun f cdv A outer s H vs Q E hr h => ?_)
  · obtain ⟨_, _, _, _, _, _, _, _, _, _, rfl, _⟩ := h
    rfl
  · obtain ⟨H0, p, dx, v, u, z, row, txt, Y, st, rfl, s0, p0, hp, hY, hR, hl60, hS, k⟩ := h
    refine ⟨_, pss_cons (ps_fld (pv 0) (pv 1) rfl) (pss_cons (ps_fld (pv 0) (pe_callTy call_list_of (by rfl) T.z_list (by decide +kernel) (pa_cons (pv 2) pa_nil)) rfl) (pss_cons (ps_fld (pv 0) (pe_lst (pa_cons (pv 3) pa_nil)) rfl) (pss_cons (ps_fld (pv 0) (pe_disp1P P w hr.units (pv 3) pe_bl) rfl)
      (pss_cons (ps_fld (pv 0) (pe_lst (pa_cons pe_non pa_nil)) rfl) (pss_one (ps_fld (pv 0) (C8.pe_mt (m_goal T) hr (by decide) (pv 0) (pa_cons (pv 3) pa_nil)) rfl)))))), ?_⟩
    -- yard
    refine ⟨_, rfl, _, rfl, p, CS, dx, _, rfl, hp, T.c_S, T.a_S_yard, by decide, ?_⟩
    have s1 : Same H0 (upd H p (.ins CS dx (putF "yard" v []))) := Same.put s0 p0
    have e1 : (upd H p (.ins CS dx (putF "yard" v []))) p = some (.ins CS dx (putF "yard" v [])) := upd_same
    generalize upd H p (.ins CS dx (putF "yard" v [])) = H1 at s1 e1 ⊢
    -- wagons
    obtain ⟨ra, rfl, hRa⟩ := hR
    refine ⟨_, rfl, ra, _, rfl, .inl (s1.seq hRa), fun lw hlw => ?_⟩
    have npw : p ≠ lw := ne_of_none e1 hlw
    have w0 : H0 lw = none := s1.free hlw
    refine ⟨_, rfl, p, CS, dx, _, rfl, (by rw [upd_ne npw]; exact e1), T.c_S, T.a_S_wagons, by show 1 < 1000; decide, ?_⟩
    have s2 : Same H0 (upd (upd H1 lw (.lst (row.map V.int))) p (.ins CS dx (putF "wagons" (.ref lw) (putF "yard" v [])))) := Same.put (Same.add s1 hlw) p0
    have e2 : (upd (upd H1 lw (.lst (row.map V.int))) p (.ins CS dx (putF "wagons" (.ref lw) (putF "yard" v [])))) p = some (.ins CS dx (putF "wagons" (.ref lw) (putF "yard" v []))) := upd_same
    have w2 : (upd (upd H1 lw (.lst (row.map V.int))) p (.ins CS dx (putF "wagons" (.ref lw) (putF "yard" v [])))) lw = some (.lst (row.map V.int)) := by rw [upd_ne npw.symm, upd_same]
    generalize upd (upd H1 lw (.lst (row.map V.int))) p (.ins CS dx (putF "wagons" (.ref lw) (putF "yard" v []))) = H2 at s2 e2 w2 ⊢
    -- met
    refine ⟨_, rfl, by show 1 ≤ sizeLine; decide, fun lm hlm => ?_⟩
    have npm : p ≠ lm := ne_of_none e2 hlm
    have nwm : lw ≠ lm := ne_of_none w2 hlm
    have m0 : H0 lm = none := s2.free hlm
    refine ⟨_, rfl, p, CS, dx, _, rfl, (by rw [upd_ne npm]; exact e2), T.c_S, T.a_S_met, by show 2 < 1000; decide, ?_⟩
    have s3 : Same H0 (upd (upd H2 lm (.lst [z])) p (.ins CS dx (putF "met" (.ref lm) (putF "wagons" (.ref lw) (putF "yard" v []))))) := Same.put (Same.add s2 hlm) p0
    have e3 : (upd (upd H2 lm (.lst [z])) p (.ins CS dx (putF "met" (.ref lm) (putF "wagons" (.ref lw) (putF "yard" v []))))) p = some (.ins CS dx (putF "met" (.ref lm) (putF "wagons" (.ref lw) (putF "yard" v [])))) := upd_same
    have w3 : (upd (upd H2 lm (.lst [z])) p (.ins CS dx (putF "met" (.ref lm) (putF "wagons" (.ref lw) (putF "yard" v []))))) lw = some (.lst (row.map V.int)) := by rw [upd_ne npw.symm, upd_ne nwm]; exact w2
    have m3 : (upd (upd H2 lm (.lst [z])) p (.ins CS dx (putF "met" (.ref lm) (putF "wagons" (.ref lw) (putF "yard" v []))))) lm = some (.lst [z]) := by rw [upd_ne npm.symm, upd_same]
    generalize upd (upd H2 lm (.lst [z])) p (.ins CS dx (putF "met" (.ref lm) (putF "wagons" (.ref lw) (putF "yard" v [])))) = H3 at s3 e3 w3 m3 ⊢
    -- known
    obtain ⟨za, zb, zc, zhs, rfl, z1, z2, z3, z4⟩ := id hS
    intro dk hdk
    have npd : p ≠ dk := ne_of_none e3 hdk
    have nwd : lw ≠ dk := ne_of_none w3 hdk
    have nmd : lm ≠ dk := ne_of_none m3 hdk
    have d0 : H0 dk = none := s3.free hdk
    have s4a : Same H0 (upd H3 dk (KD P w dk [])) := Same.add s3 hdk
    refine ⟨_, rfl, za, st, rfl, rfl, hS.keep (Same.keepT s4a), upd_same, ?_⟩
    rw [upd_upd]
    refine ⟨_, rfl, p, CS, dx, _, rfl, (by rw [upd_ne npd]; exact e3), T.c_S, T.a_S_known, by show 3 < 1000; decide, ?_⟩
    have s4 : Same H0 (upd (upd H3 dk (KD P w dk [(st, za)])) p (.ins CS dx (putF "known" (.ref dk) (putF "met" (.ref lm) (putF "wagons" (.ref lw) (putF "yard" v [])))))) := Same.put (Same.add s3 hdk) p0
    have e4 : (upd (upd H3 dk (KD P w dk [(st, za)])) p (.ins CS dx (putF "known" (.ref dk) (putF "met" (.ref lm) (putF "wagons" (.ref lw) (putF "yard" v [])))))) p = some (.ins CS dx (putF "known" (.ref dk) (putF "met" (.ref lm) (putF "wagons" (.ref lw) (putF "yard" v []))))) := upd_same
    have w4 : (upd (upd H3 dk (KD P w dk [(st, za)])) p (.ins CS dx (putF "known" (.ref dk) (putF "met" (.ref lm) (putF "wagons" (.ref lw) (putF "yard" v [])))))) lw = some (.lst (row.map V.int)) := by rw [upd_ne npw.symm, upd_ne nwd]; exact w3
    have m4 : (upd (upd H3 dk (KD P w dk [(st, za)])) p (.ins CS dx (putF "known" (.ref dk) (putF "met" (.ref lm) (putF "wagons" (.ref lw) (putF "yard" v [])))))) lm = some (.lst [.ref za]) := by rw [upd_ne npm.symm, upd_ne nmd]; exact m3
    have d4 : (upd (upd H3 dk (KD P w dk [(st, za)])) p (.ins CS dx (putF "known" (.ref dk) (putF "met" (.ref lm) (putF "wagons" (.ref lw) (putF "yard" v [])))))) dk = some (KD P w dk [(st, za)]) := by rw [upd_ne npd.symm, upd_same]
    generalize upd (upd H3 dk (KD P w dk [(st, za)])) p (.ins CS dx (putF "known" (.ref dk) (putF "met" (.ref lm) (putF "wagons" (.ref lw) (putF "yard" v []))))) = H4 at s4 e4 w4 m4 d4 ⊢
    -- origin
    refine ⟨by show 1 ≤ sizeLine; decide, fun lo hlo => ?_⟩
    have npo : p ≠ lo := ne_of_none e4 hlo
    have nwo : lw ≠ lo := ne_of_none w4 hlo
    have nmo : lm ≠ lo := ne_of_none m4 hlo
    have ndo : dk ≠ lo := ne_of_none d4 hlo
    have o0 : H0 lo = none := s4.free hlo
    refine ⟨_, rfl, p, CS, dx, _, rfl, (by rw [upd_ne npo]; exact e4), T.c_S, T.a_S_origin, by show 4 < 1000; decide, ?_⟩
    have s5 : Same H0 (upd (upd H4 lo (.lst [.non])) p (.ins CS dx (putF "origin" (.ref lo) (putF "known" (.ref dk) (putF "met" (.ref lm) (putF "wagons" (.ref lw) (putF "yard" v []))))))) := Same.put (Same.add s4 hlo) p0
    have e5 : (upd (upd H4 lo (.lst [.non])) p (.ins CS dx (putF "origin" (.ref lo) (putF "known" (.ref dk) (putF "met" (.ref lm) (putF "wagons" (.ref lw) (putF "yard" v []))))))) p = some (.ins CS dx (putF "origin" (.ref lo) (putF "known" (.ref dk) (putF "met" (.ref lm) (putF "wagons" (.ref lw) (putF "yard" v [])))))) := upd_same
    have w5 : (upd (upd H4 lo (.lst [.non])) p (.ins CS dx (putF "origin" (.ref lo) (putF "known" (.ref dk) (putF "met" (.ref lm) (putF "wagons" (.ref lw) (putF "yard" v []))))))) lw = some (.lst (row.map V.int)) := by rw [upd_ne npw.symm, upd_ne nwo]; exact w4
    have m5 : (upd (upd H4 lo (.lst [.non])) p (.ins CS dx (putF "origin" (.ref lo) (putF "known" (.ref dk) (putF "met" (.ref lm) (putF "wagons" (.ref lw) (putF "yard" v []))))))) lm = some (.lst [.ref za]) := by rw [upd_ne npm.symm, upd_ne nmo]; exact m4
    have d5 : (upd (upd H4 lo (.lst [.non])) p (.ins CS dx (putF "origin" (.ref lo) (putF "known" (.ref dk) (putF "met" (.ref lm) (putF "wagons" (.ref lw) (putF "yard" v []))))))) dk = some (KD P w dk [(st, za)]) := by rw [upd_ne npd.symm, upd_ne ndo]; exact d4
    have o5 : (upd (upd H4 lo (.lst [.non])) p (.ins CS dx (putF "origin" (.ref lo) (putF "known" (.ref dk) (putF "met" (.ref lm) (putF "wagons" (.ref lw) (putF "yard" v []))))))) lo = some (.lst [.non]) := by rw [upd_ne npo.symm, upd_same]
    generalize upd (upd H4 lo (.lst [.non])) p (.ins CS dx (putF "origin" (.ref lo) (putF "known" (.ref dk) (putF "met" (.ref lm) (putF "wagons" (.ref lw) (putF "yard" v [])))))) = H5 at s5 e5 w5 m5 d5 o5 ⊢
    -- found
    refine ⟨_, rfl, p, dx, _, rfl, e5, rfl, _, rfl, p, _, dx, _, lw, row, st, rfl, e5, rfl, w5, hS.keep (Same.keepT s5), ?_⟩
    refine ⟨_, rfl, p, CS, dx, _, rfl, e5, T.c_S, T.a_S_found, by show 5 < 1000; decide, ?_⟩
    have kt : KeepT H0 (upd H5 p (.ins CS dx (putF "found" (.bl (decide (st.gone.length = row.length))) (putF "origin" (.ref lo) (putF "known" (.ref dk) (putF "met" (.ref lm) (putF "wagons" (.ref lw) (putF "yard" v [])))))))) := Same.keepT (Same.put s5 p0)
    refine k _ ⟨Same.put s5 p0, p0, dx, v, lw, lm, dk, lo, [.ref za], [.non], [(st, za)], w0, m0, d0, o0, nmo, nwm, nwo, upd_same, hY, ?_, ?_, .cons (hS.keep kt) .nil, ⟨?_, ?_⟩, rfl, ?_, .cons rfl .nil⟩
    · rw [upd_ne npw.symm]; exact w5
    · rw [upd_ne npm.symm]; exact m5
    · rw [upd_ne npd.symm]; exact d5
    · intro q hq
      rw [List.mem_singleton.mp hq]
      exact hS.keep kt
    · rw [upd_ne npo.symm]; exact o5
end
end YW
namespace YW
open PySem L2
structure SrA (P : Program) (w : World) (CS CY : Addr) (H0 H : Hp) (p : Addr) (txt : Str) (Y : YM.Yard) (row : List Int) (met : List YM.Sit) (org : YM.Org YM.Mv) (fd : Bool) (dx : Addr) (yv : V) (lw lm dk lo : Addr) : Prop where
  same : Same H0 H
  p0 : H0 p = none
  w0 : H0 lw = none
  m0 : H0 lm = none
  d0 : H0 dk = none
  o0 : H0 lo = none
  nmo : lm ≠ lo
  nwm : lw ≠ lm
  nwo : lw ≠ lo
  hp : H p = some (.ins CS dx (sfs yv lw lm dk lo fd))
  hy : YardAt CY H0 yv txt Y
  hw : H lw = some (.lst (row.map V.int))
  hm : ∃ xs, H lm = some (.lst xs) ∧ Paired (SitAt H) xs met
  hk : ∃ L, KnownAt P w H dk L ∧ L.map (·.1) = met
  ho : ∃ os, H lo = some (.lst os) ∧ Paired (OrgAt H) os org
section
variable {P : Program} {w : World} {CS CY : Addr} {H0 H H' : Hp} {p : Addr} {txt : Str} {Y : YM.Yard} {row : List Int} {met : List YM.Sit} {org : YM.Org YM.Mv} {fd : Bool} {dx : Addr} {yv : V} {lw lm dk lo : Addr}
theorem SrAt.open (h : SrAt P w CS CY H0 H p txt Y row met org fd) : ∃ dx yv lw lm dk lo, SrA P w CS CY H0 H p txt Y row met org fd dx yv lw lm dk lo := by
  obtain ⟨s, p0, dx, yv, lw, lm, dk, lo, xs, os, L, w0, m0, d0, o0, a, b, c, hp, hy, hw, hm, hm2, hk, hk2, ho, ho2⟩ := h
  exact ⟨dx, yv, lw, lm, dk, lo, s, p0, w0, m0, d0, o0, a, b, c, hp, hy, hw, ⟨xs, hm, hm2⟩, ⟨L, hk, hk2⟩, ⟨os, ho, ho2⟩⟩
theorem SrA.close (h : SrA P w CS CY H0 H p txt Y row met org fd dx yv lw lm dk lo) : SrAt P w CS CY H0 H p txt Y row met org fd := by
  obtain ⟨xs, hm, hm2⟩ := h.hm
  obtain ⟨L, hk, hk2⟩ := h.hk
  obtain ⟨os, ho, ho2⟩ := h.ho
  exact ⟨h.same, h.p0, dx, yv, lw, lm, dk, lo, xs, os, L, h.w0, h.m0, h.d0, h.o0, h.nmo, h.nwm, h.nwo, h.hp, h.hy, h.hw, hm, hm2, hk, hk2, ho, ho2⟩
theorem KnownAt.grow {L : Ents} (h : KnownAt P w H dk L) (s : Same H H') : KnownAt P w H' dk L := ⟨s _ _ h.at_, fun q hq => (h.sits q hq).keep (Same.keepT s)⟩
theorem SrA.grow (h : SrA P w CS CY H0 H p txt Y row met org fd dx yv lw lm dk lo) (s : Same H H') : SrA P w CS CY H0 H' p txt Y row met org fd dx yv lw lm dk lo := by
  obtain ⟨xs, hm, hm2⟩ := h.hm
  obtain ⟨L, hk, hk2⟩ := h.hk
  obtain ⟨os, ho, ho2⟩ := h.ho
  exact ⟨h.same.trans s, h.p0, h.w0, h.m0, h.d0, h.o0, h.nmo, h.nwm, h.nwo, s _ _ h.hp, h.hy, s _ _ h.hw, ⟨xs, s _ _ hm, Paired.mapP hm2 fun _ _ q => q.keep (Same.keepT s)⟩, ⟨L, hk.grow s, hk2⟩, ⟨os, s _ _ ho, Paired.mapP ho2 fun _ _ q => keepOrg _ _ _ _ (Same.keepT s) q⟩⟩
theorem SrA.nkm (h : SrA P w CS CY H0 H p txt Y row met org fd dx yv lw lm dk lo) : dk ≠ lm ∧ dk ≠ lo ∧ dk ≠ p ∧ dk ≠ lw ∧ p ≠ lm ∧ p ≠ lo ∧ p ≠ lw := by
  obtain ⟨xs, hm, _⟩ := h.hm
  obtain ⟨L, hk, _⟩ := h.hk
  obtain ⟨os, ho, _⟩ := h.ho
  have k := hk.at_
  exact ⟨ne_of k hm (by intro q; cases q), ne_of k ho (by intro q; cases q), ne_of k h.hp (by intro q; cases q), ne_of k h.hw (by intro q; cases q), ne_of h.hp hm (by intro q; cases q), ne_of h.hp ho (by intro q; cases q), ne_of h.hp h.hw (by intro q; cases q)⟩
/-- one more situation is met -/
theorem SrA.meet (h : SrA P w CS CY H0 H p txt Y row met org fd dx yv lw lm dk lo) {b t : Addr} {f : YM.Sit} {i : Nat} {m : YM.Mv} {mv : V} (hf : SitAt H (.ref b) f) (hmv : MvAt H mv m) {xs os : List V} {L : Ents} (hx : H lm = some (.lst xs)) (hL : H dk = some (KD P w dk L)) (ho : H lo = some (.lst os)) (hLm : L.map (·.1) = met)
    (hLs : ∀ q ∈ L, SitAt H (.ref q.2) q.1) (ht : (upd (upd H dk (KD P w dk (L ++ [(f, b)]))) lm (.lst (xs ++ [.ref b]))) t = none) :
    SrA P w CS CY H0 (upd (upd (upd (upd H dk (KD P w dk (L ++ [(f, b)]))) lm (.lst (xs ++ [.ref b]))) t (.tup [.int ((i : Nat) : Int), mv])) lo (.lst (os ++ [.ref t]))) p txt Y row (met ++ [f]) (org ++ [some (i, m)]) fd dx yv lw lm dk lo ∧
    KeepT H (upd (upd (upd (upd H dk (KD P w dk (L ++ [(f, b)]))) lm (.lst (xs ++ [.ref b]))) t (.tup [.int ((i : Nat) : Int), mv])) lo (.lst (os ++ [.ref t]))) := by
  obtain ⟨n1, n2, n3, n4, n5, n6, n7⟩ := h.nkm
  have k1 : KeepT H (upd H dk (KD P w dk (L ++ [(f, b)]))) := KeepT.put hL (by intro _ q; cases q)
  have hx1 : (upd H dk (KD P w dk (L ++ [(f, b)]))) lm = some (.lst xs) := by rw [upd_ne n1.symm]; exact hx
  have k2 : KeepT (upd H dk (KD P w dk (L ++ [(f, b)]))) (upd (upd H dk (KD P w dk (L ++ [(f, b)]))) lm (.lst (xs ++ [.ref b]))) := KeepT.put hx1 (by intro _ q; cases q)
  have k3 := KeepT.new (o := .tup [.int ((i : Nat) : Int), mv]) ht
  have ho3 : (upd (upd (upd H dk (KD P w dk (L ++ [(f, b)]))) lm (.lst (xs ++ [.ref b]))) t (.tup [.int ((i : Nat) : Int), mv])) lo = some (.lst os) := by
    have e : (upd (upd H dk (KD P w dk (L ++ [(f, b)]))) lm (.lst (xs ++ [.ref b]))) lo = some (.lst os) := by rw [upd_ne h.nmo.symm, upd_ne n2.symm]; exact ho
    rw [upd_ne (ne_of_none e ht)]; exact e
  have k4 : KeepT (upd (upd (upd H dk (KD P w dk (L ++ [(f, b)]))) lm (.lst (xs ++ [.ref b]))) t (.tup [.int ((i : Nat) : Int), mv])) (upd (upd (upd (upd H dk (KD P w dk (L ++ [(f, b)]))) lm (.lst (xs ++ [.ref b]))) t (.tup [.int ((i : Nat) : Int), mv])) lo (.lst (os ++ [.ref t]))) := KeepT.put ho3 (by intro _ q; cases q)
  have kk := ((k1.trans k2).trans k3).trans k4
  have away : ∀ q o, q ≠ dk → q ≠ lm → q ≠ lo → H q = some o → (upd (upd (upd (upd H dk (KD P w dk (L ++ [(f, b)]))) lm (.lst (xs ++ [.ref b]))) t (.tup [.int ((i : Nat) : Int), mv])) lo (.lst (os ++ [.ref t]))) q = some o := fun q o a1 a2 a3 e => by
    have e1 : (upd (upd H dk (KD P w dk (L ++ [(f, b)]))) lm (.lst (xs ++ [.ref b]))) q = some o := by rw [upd_ne a2, upd_ne a1]; exact e
    rw [upd_ne a3, upd_ne (ne_of_none e1 ht)]; exact e1
  have s0 : Same H0 (upd (upd (upd (upd H dk (KD P w dk (L ++ [(f, b)]))) lm (.lst (xs ++ [.ref b]))) t (.tup [.int ((i : Nat) : Int), mv])) lo (.lst (os ++ [.ref t]))) :=
    Same.put (Same.add (Same.put (Same.put h.same h.d0) h.m0) ht) h.o0
  have et : ∀ q o, (upd (upd H dk (KD P w dk (L ++ [(f, b)]))) lm (.lst (xs ++ [.ref b]))) q = some o → q ≠ t := fun q o e => ne_of_none e ht
  obtain ⟨xs', hm, hm2⟩ := h.hm
  obtain ⟨os', ho', ho2⟩ := h.ho
  rw [hx] at hm
  cases hm
  rw [ho] at ho'
  cases ho'
  have em : (upd (upd H dk (KD P w dk (L ++ [(f, b)]))) lm (.lst (xs ++ [.ref b]))) lm = some (.lst (xs ++ [.ref b])) := upd_same
  have ed : (upd (upd H dk (KD P w dk (L ++ [(f, b)]))) lm (.lst (xs ++ [.ref b]))) dk = some (KD P w dk (L ++ [(f, b)])) := by rw [upd_ne n1, upd_same]
  refine ⟨⟨s0, h.p0, h.w0, h.m0, h.d0, h.o0, h.nmo, h.nwm, h.nwo, away _ _ n3.symm n5 n6 h.hp, h.hy, away _ _ n4.symm h.nwm h.nwo h.hw, ⟨_, ?_, Paired.snoc (Paired.mapP hm2 fun _ _ q => q.keep kk) (hf.keep kk)⟩, ⟨L ++ [(f, b)], ⟨?_, fun q hq => ?_⟩, ?_⟩, ⟨_, upd_same, Paired.snoc (Paired.mapP ho2 fun _ _ q => keepOrg _ _ _ _ kk q) ⟨mv, ⟨t, rfl, ?_⟩, hmv.keep kk⟩⟩⟩, kk⟩
  · rw [upd_ne h.nmo, upd_ne (et _ _ em)]; exact em
  · rw [upd_ne n2, upd_ne (et _ _ ed)]; exact ed
  · rcases List.mem_append.mp hq with z | z
    · exact (hLs q z).keep kk
    · rw [List.mem_singleton.mp z]
      exact hf.keep kk
  · rw [List.map_append, hLm]
    rfl
  · have e : (upd (upd H dk (KD P w dk (L ++ [(f, b)]))) lm (.lst (xs ++ [.ref b]))) lo = some (.lst os) := by rw [upd_ne h.nmo.symm, upd_ne n2.symm]; exact ho
    rw [upd_ne (et _ _ e).symm, upd_same]
/-- found -/
theorem SrA.flag (h : SrA P w CS CY H0 H p txt Y row met org fd dx yv lw lm dk lo) (b : Bool) : SrA P w CS CY H0 (upd H p (.ins CS dx (sfs yv lw lm dk lo b))) p txt Y row met org b dx yv lw lm dk lo := by
  obtain ⟨n1, n2, n3, n4, n5, n6, n7⟩ := h.nkm
  have kk : KeepT H (upd H p (.ins CS dx (sfs yv lw lm dk lo b))) := KeepT.put h.hp (by intro _ q; cases q)
  obtain ⟨xs, hm, hm2⟩ := h.hm
  obtain ⟨L, hk, hk2⟩ := h.hk
  obtain ⟨os, ho, ho2⟩ := h.ho
  exact ⟨Same.put h.same h.p0, h.p0, h.w0, h.m0, h.d0, h.o0, h.nmo, h.nwm, h.nwo, upd_same, h.hy, by rw [upd_ne n7.symm]; exact h.hw, ⟨xs, by rw [upd_ne n5.symm]; exact hm, Paired.mapP hm2 fun _ _ q => q.keep kk⟩,
    ⟨L, ⟨by rw [upd_ne n3]; exact hk.at_, fun q hq => (hk.sits q hq).keep kk⟩, hk2⟩, ⟨os, by rw [upd_ne n6.symm]; exact ho, Paired.mapP ho2 fun _ _ q => keepOrg _ _ _ _ kk q⟩⟩
end
end YW
namespace YW
open PySem L2
/-- what is asked of a yard and a row that are searched -/
structure Small (Y : YM.Yard) (row : List Int) : Prop where
  isRow : YM.IsRow row
  n5 : row.length ≤ 5
  sum : Y.kinds.length + row.length ≤ 7
theorem getMet {H : Hp} {xs : List V} {met : List YM.Sit} (h : Paired (SitAt H) xs met) {i : Nat} {s : YM.Sit} (e : met[i]? = some s) : ∃ z, xs[i]? = some z ∧ SitAt H z s := Paired.at h e
theorem wf_small {Y : YM.Yard} {row : List Int} {s : YM.Sit} (w : YM.WF Y row s) (h5 : row.length ≤ 5) (h3 : Y.kinds.length ≤ 3) : s.gone.length ≤ 1000 ∧ (∀ l ∈ s.held, l.length ≤ 1000) ∧ s.held.length ≤ 1000 := by
  have h1 := w.perm.length_eq
  rw [List.length_append, List.length_take] at h1
  have h2 := w.came
  refine ⟨by omega, fun l hl => ?_, by rw [w.len]; omega⟩
  have : l.length ≤ s.held.flatten.length := by
    obtain ⟨a, b, e⟩ := List.append_of_mem hl
    rw [e, List.flatten_append, List.flatten_cons, List.length_append, List.length_append]
    omega
  omega
section
variable {P : Program} {w : World} {K : PySem.W.Frag} {mg : Str → Option Value} {base : Heap} {CG CR CY CS dI dO dT dC : Addr}
def spLook (P : Program) (w : World) (CS CY : Addr) : Sp := fun vs H Q _ => ∃ (H0 : Hp) (p : Addr) (i : Nat) (txt : Str) (Y : YM.Yard) (row : List Int) (met : List YM.Sit) (org : YM.Org YM.Mv) (s0 : YM.Sit), vs = [.ref p, .int ((i : Nat) : Int)] ∧ SrAt P w CS CY H0 H p txt Y row met org false ∧ Small Y row ∧
  YM.Bst Y row s0 met org i ∧ YM.NoGoal row met ∧ i < met.length ∧
  ∀ H' met' org' fd, SrAt P w CS CY H0 H' p txt Y row met' org' fd → ((fd = false ∧ YM.Bst Y row s0 met' org' (i + 1) ∧ YM.NoGoal row met' ∧ i < met'.length) ∨ (fd = true ∧ YM.Bst Y row s0 met' org' i ∧ YM.Found row met' org' i)) → Q .non H'
theorem m_look (T : Txt K w mg CG CR CY CS dI dO dT dC) : C8.Met P w K mg base 4 CS "look" (spLook P w CS CY) [] := by
  refine met_of T.c_S T.d_S_look b_S_look sc_S_look (fun vs H Q E h => ?_) (fun f cdv A outer s H vs Q E hr h => ?_)
  · obtain ⟨_, _, _, _, _, _, _, _, _, rfl, _⟩ := h
    rfl
  · obtain ⟨H0, p, i, txt, Y, row, met, org, s0, rfl, hSr, sm, hb, hng, hi, k⟩ := h
    have nd := sc_S_look.nd
    refine ⟨_, pss_cons (ps_set (i := 2) nd rfl (Or.inl rfl) (pe_ix ix_list (pe_fld (pv 0) rfl) (pv 1) (fun _ _ => rfl)))
      (pss_one (ps_for PassesOwn.never rfl (pi_list (C8.pe_c (c_possible T) hr (by decide) rfl (pa_cons (pe_fld (pv 0) rfl) (pa_cons (pe_fld (pv 0) rfl) (pa_cons (pv 2) pa_nil))))) (pg_name (i := 3) nd rfl (Or.inl rfl))
        (pss_cons (ps_set (i := 4) nd rfl (Or.inl rfl) (C8.pe_c (c_after T) hr (by decide) rfl (pa_cons (pe_fld (pv 0) rfl) (pa_cons (pv 2) (pa_cons (pv 3) pa_nil)))))
        (pss_cons (ps_if (PW.pt (pw_or (pt_cmpR (op_inKP P w hr.units) (pv 4) (pe_fld (pv 0) rfl) (by rfl)) (pw_or1 (pt_not (pt_val (C8.pe_c (c_is_live T) hr (by decide) rfl (pa_cons (pv 4) pa_nil))))))) (pss_one ps_continue) pss_nil)
        (pss_cons (ps_if (pt_cmpR op_eq (pe_callB call_len_seq (by rfl) T.z_len PySem.boot_len (pa_cons (pe_fld (pv 0) rfl) pa_nil)) (C8.pe_gc rfl T.v_MOST_SITUATIONS) (nomark _)) (pss_one ps_never) pss_nil)
        (pss_cons (ps_asg pe_bl (pg_sub (pe_fld (pv 0) rfl) (pv 4) (set_KP P w hr.units)))
        (pss_cons (ps_expr (pe_bm PySem.F.plainAttrs_list PySem.F.slot_list_append PySem.F.type_list_append mt_append (pe_fld (pv 0) rfl) (pa_cons (pv 4) pa_nil)))
        (pss_cons (ps_expr (pe_bm PySem.F.plainAttrs_list PySem.F.slot_list_append PySem.F.type_list_append mt_append (pe_fld (pv 0) rfl) (pa_cons (pe_tup (pa_cons (pv 1) (pa_cons (pv 3) pa_nil))) pa_nil)))
        (pss_one (ps_if (pt_val (C8.pe_mt (m_goal T) hr (by decide) (pv 0) (pa_cons (pv 4) pa_nil))) (pss_cons (ps_fld (pv 0) pe_bl rfl) (pss_one ps_retN)) pss_nil)))))))))), ?_⟩
    obtain ⟨dx, yv, lw, lm, dk, lo, S⟩ := hSr.open
    obtain ⟨xs, hm, hm2⟩ := S.hm
    have hyo := S.hy.ok
    have hsi : met[i]? = some met[i] := List.getElem?_eq_getElem hi
    have hwf := hb.wf _ (List.getElem_mem hi)
    generalize met[i] = st at hsi hwf
    obtain ⟨z, hz, hzs⟩ := getMet hm2 hsi
    refine ⟨_, rfl, p, CS, dx, _, _, rfl, S.hp, T.c_S, T.a_S_met, rfl, _, rfl, lm, xs, _, z, rfl, rfl, SqL.of hm, atI_nat hz, ?_⟩
    -- for move in possible(..)
    refine ⟨_, rfl, p, CS, dx, _, _, rfl, S.hp, T.c_S, T.a_S_yard, rfl, _, rfl, p, CS, dx, _, _, rfl, S.hp, T.c_S, T.a_S_wagons, rfl, _, rfl, _, _, _, row, txt, Y, st, rfl, S.hy.same S.same, ⟨lw, rfl, SqL.of S.hw⟩, hzs, hwf.len, fun pm H1 mvs ms s1 pm0 hpm hpr hall hlen => ?_⟩
    have hsm := wf_small hwf sm.n5 hyo.most
    refine ⟨pm, rfl, ⟨_, SqL.of hpm⟩, ?_⟩
    have nml : pm ≠ lm := (ne_of_none hm pm0).symm
    have nmo : pm ≠ lo := by
      obtain ⟨os, ho, _⟩ := S.ho
      exact (ne_of_none ho pm0).symm
    have nmd : pm ≠ dk := by
      obtain ⟨L, hk, _⟩ := S.hk
      exact (ne_of_none hk.at_ pm0).symm
    have nmp : pm ≠ p := (ne_of_none S.hp pm0).symm
    refine for_list (K := K) (a := pm) (xs := mvs) (fun j σ H2 => ∃ x3 x4 met2 org2, σ = [some (.ref p), some (.int ((i : Nat) : Int)), some z, x3, x4] ∧ SrA P w CS CY H0 H2 p txt Y row met2 org2 false dx yv lw lm dk lo ∧ SitAt H2 z st ∧ H2 pm = some (.lst mvs) ∧ Paired (MvAt H2) mvs ms ∧ YM.LookSt Y row s0 met2 org2 i st (ms.take j))
      ⟨none, none, met, org, rfl, S.grow s1, hzs.keep (Same.keepT s1), hpm, hpr, .start hb hsi hng⟩ (fun j σ H2 _ ⟨_, _, _, _, _, _, _, e, _, _⟩ => SqL.of e) ?_ ?_
    · rintro j x σ H2 hj ⟨x3, x4, met2, org2, rfl, S2, hz2, hpm2, hpr2, ls⟩
      obtain ⟨m, hmj, hmv⟩ := Paired.get hpr2 hj
      have hcan : YM.Can Y row.length st m := (hall m).mp (List.mem_of_getElem? hmj)
      have htk : ms.take (j + 1) = ms.take j ++ [m] := take_succ_get hmj
      refine ⟨_, rfl, p, CS, dx, _, _, rfl, S2.hp, T.c_S, T.a_S_wagons, rfl, _, rfl, _, rfl, _, _, _, row, st, m, rfl, ⟨lw, rfl, SqL.of S2.hw⟩, hz2, hmv, .of hyo.lk hwf.len hcan, hsm.1, hsm.2.1, hsm.2.2, fun fv H3 s3 hf3 => ?_⟩
      have S3 := S2.grow s3
      have hpm3 := s3 _ _ hpm2
      have hpr3 : Paired (MvAt H3) mvs ms := Paired.mapP hpr2 fun _ _ q => q.keep (Same.keepT s3)
      have hz3 := hz2.keep (Same.keepT s3)
      have wff := hwf.aft hyo.lk hcan
      have fsm := wf_small wff sm.n5 hyo.most
      obtain ⟨L, hk, hLm⟩ := S3.hk
      obtain ⟨fb, _, _, _, rfl, _⟩ := id hf3
      -- if following in self.known or not is_live(following)
      refine ⟨_, rfl, _, rfl, p, CS, dx, _, _, rfl, S3.hp, T.c_S, T.a_S_known, rfl, dk, fb, _, L, rfl, rfl, hf3, hk, _, rfl, ?_⟩
      rw [hLm]
      by_cases hin : YM.aft row st m ∈ met2
      · rw [decide_eq_true hin]
        refine iteT (iteT ?_)
        refine ⟨_, _, met2, org2, rfl, S3, hz3, hpm3, hpr3, ?_⟩
        rw [htk]
        exact ls.known hin
      rw [decide_eq_false hin]
      refine iteF ?_
      refine ⟨_, rfl, _, _, rfl, hf3, fsm.1, fun H4 s4 => ⟨_, rfl, ?_⟩⟩
      have S4 := S3.grow s4
      have hpm4 := s4 _ _ hpm3
      have hpr4 : Paired (MvAt H4) mvs ms := Paired.mapP hpr3 fun _ _ q => q.keep (Same.keepT s4)
      have hz4 := hz3.keep (Same.keepT s4)
      have hf4 := hf3.keep (Same.keepT s4)
      by_cases hlv : (YM.aft row st m).live
      rotate_left
      · rw [decide_eq_false hlv]
        refine iteT ?_
        refine ⟨_, _, met2, org2, rfl, S4, hz4, hpm4, hpr4, ?_⟩
        rw [htk]
        exact ls.dead hlv
      rw [decide_eq_true hlv]
      refine iteF ?_
      have hadd := ls.add hyo.lk hcan hlv hin
      have hfew := hadd.few sm.isRow hyo.pos hyo.most sm.n5 sm.sum
      rw [List.length_append, List.length_singleton] at hfew
      obtain ⟨xs4, hm4, hm42⟩ := S4.hm
      obtain ⟨L4, hk4, hL4⟩ := S4.hk
      obtain ⟨os4, ho4, ho42⟩ := S4.ho
      -- if len(self.met) == 4000
      refine ⟨_, rfl, p, CS, dx, _, _, rfl, S4.hp, T.c_S, T.a_S_met, rfl, lm, _, rfl, .inl (SqL.of hm4), rfl, _, rfl, ?_⟩
      rw [decide_eq_false (by intro q; injection q with q; rw [Paired.length hm42] at q; omega)]
      refine iteF ?_
      -- self.known[following] = True
      have hLn : YM.aft row st m ∉ L4.map (·.1) := by rw [hL4]; exact hin
      have hLl : L4.length < 10000 := by
        have : L4.length = met2.length := by rw [← hL4, List.length_map]
        omega
      refine ⟨_, rfl, p, CS, dx, _, _, rfl, S4.hp, T.c_S, T.a_S_known, rfl, _, rfl, dk, fb, _, L4, rfl, rfl, rfl, hf4, hk4, hLn, hLl, ?_⟩
      obtain ⟨n1, n2, n3, n4, n5, n6, n7⟩ := S4.nkm
      have p5 : (upd H4 dk (KD P w dk (L4 ++ [(YM.aft row st m, fb)]))) p = some (.ins CS dx (sfs yv lw lm dk lo false)) := by rw [upd_ne n3.symm]; exact S4.hp
      have m5 : (upd H4 dk (KD P w dk (L4 ++ [(YM.aft row st m, fb)]))) lm = some (.lst xs4) := by rw [upd_ne n1.symm]; exact hm4
      -- self.met.append(following)
      refine ⟨_, rfl, p, CS, dx, _, _, rfl, p5, T.c_S, T.a_S_met, rfl, .inl ⟨rfl, _, SqL.of m5⟩, _, rfl, lm, xs4, _, rfl, rfl, m5, Nat.lt_of_le_of_lt (show xs4.length ≤ 4000 by rw [Paired.length hm42]; omega) (by decide), ?_⟩
      have p6 : (upd (upd H4 dk (KD P w dk (L4 ++ [(YM.aft row st m, fb)]))) lm (.lst (xs4 ++ [.ref fb]))) p = some (.ins CS dx (sfs yv lw lm dk lo false)) := by rw [upd_ne n5]; exact p5
      have o6 : (upd (upd H4 dk (KD P w dk (L4 ++ [(YM.aft row st m, fb)]))) lm (.lst (xs4 ++ [.ref fb]))) lo = some (.lst os4) := by rw [upd_ne S4.nmo.symm, upd_ne n2.symm]; exact ho4
      -- self.origin.append((index, move))
      refine ⟨_, rfl, p, CS, dx, _, _, rfl, p6, T.c_S, T.a_S_origin, rfl, .inl ⟨rfl, _, SqL.of o6⟩, _, rfl, _, rfl, by show 2 ≤ sizeLine; decide, fun t ht => ?_⟩
      have o7 : (upd (upd (upd H4 dk (KD P w dk (L4 ++ [(YM.aft row st m, fb)]))) lm (.lst (xs4 ++ [.ref fb]))) t (.tup [.int ((i : Nat) : Int), x])) lo = some (.lst os4) := by rw [upd_ne (ne_of_none o6 ht)]; exact o6
      refine ⟨lo, os4, _, rfl, rfl, o7, Nat.lt_of_le_of_lt (show os4.length ≤ 4000 by rw [Paired.length ho42, ls.b.bi.len]; omega) (by decide), ?_⟩
      obtain ⟨S8, kk⟩ := S4.meet (i := i) (m := m) hf4 (hmv.keep ((Same.keepT s3).trans (Same.keepT s4))) hm4 hk4.at_ ho4 hL4 hk4.sits ht
      have e6 : (upd (upd H4 dk (KD P w dk (L4 ++ [(YM.aft row st m, fb)]))) lm (.lst (xs4 ++ [.ref fb]))) pm = some (.lst mvs) := by rw [upd_ne nml, upd_ne nmd]; exact hpm4
      have e8 : (upd (upd (upd (upd H4 dk (KD P w dk (L4 ++ [(YM.aft row st m, fb)]))) lm (.lst (xs4 ++ [.ref fb]))) t (.tup [.int ((i : Nat) : Int), x])) lo (.lst (os4 ++ [.ref t]))) pm = some (.lst mvs) := by
        rw [upd_ne nmo, upd_ne (ne_of_none e6 ht)]; exact e6
      generalize (upd (upd (upd (upd H4 dk (KD P w dk (L4 ++ [(YM.aft row st m, fb)]))) lm (.lst (xs4 ++ [.ref fb]))) t (.tup [.int ((i : Nat) : Int), x])) lo (.lst (os4 ++ [.ref t]))) = H8 at S8 kk e8 ⊢
      -- if self.is_goal(following)
      refine ⟨_, rfl, p, dx, _, rfl, S8.hp, rfl, _, rfl, p, _, dx, _, lw, row, _, rfl, S8.hp, rfl, S8.hw, hf4.keep kk, _, rfl, ?_⟩
      by_cases hgoal : (YM.aft row st m).gone.length = row.length
      · rw [decide_eq_true hgoal]
        refine iteT ?_
        refine ⟨_, rfl, p, CS, dx, _, rfl, S8.hp, T.c_S, T.a_S_found, by show 6 < 1000; decide, ?_⟩
        exact k _ _ _ true (S8.flag true).close (.inr ⟨rfl, hadd, ls.found hgoal⟩)
      · rw [decide_eq_false hgoal]
        refine iteF ?_
        refine ⟨_, _, _, _, rfl, S8, hz4.keep kk, e8, Paired.mapP hpr4 fun _ _ q => q.keep kk, ?_⟩
        rw [htk]
        exact ls.more hyo.lk hcan hlv hin hgoal
    · rintro σ H2 ⟨x3, x4, met2, org2, rfl, S2, hz2, hpm2, hpr2, ls⟩
      have el : ms.take mvs.length = ms := by rw [Paired.length hpr2, List.take_length]
      rw [el] at ls
      exact k _ _ _ false S2.close (.inl ⟨rfl, ls.end fun m hm => (hall m).mpr hm, ls.ng, (List.getElem?_eq_some_iff.mp ls.at_).1⟩)
end
end YW
namespace YW
open PySem L2
/-- what finish leaves -/
def FinOk (Y : YM.Yard) (row : List Int) (s0 : YM.Sit) (met : List YM.Sit) (org : YM.Org YM.Mv) (fd : Bool) : Prop :=
  (fd = true ∧ ((met = [s0] ∧ org = [none] ∧ s0.gone.length = row.length) ∨ ∃ i, YM.Bst Y row s0 met org i ∧ YM.Found row met org i)) ∨ (fd = false ∧ YM.Bst Y row s0 met org met.length ∧ YM.NoGoal row met)
section
variable {P : Program} {w : World} {K : PySem.W.Frag} {mg : Str → Option Value} {base : Heap} {CG CR CY CS dI dO dT dC : Addr}
def spFinish (P : Program) (w : World) (CS CY : Addr) : Sp := fun vs H Q _ => ∃ (H0 : Hp) (p : Addr) (txt : Str) (Y : YM.Yard) (row : List Int) (s0 : YM.Sit), vs = [.ref p] ∧ SrAt P w CS CY H0 H p txt Y row [s0] [none] (decide (s0.gone.length = row.length)) ∧ Small Y row ∧ YM.WF Y row s0 ∧ s0.live ∧
  ∀ H' met' org' fd, SrAt P w CS CY H0 H' p txt Y row met' org' fd → FinOk Y row s0 met' org' fd → Q .non H'
theorem m_finish (T : Txt K w mg CG CR CY CS dI dO dT dC) : C8.Met P w K mg base 5 CS "finish" (spFinish P w CS CY) [] := by
  refine met_of T.c_S T.d_S_finish b_S_finish sc_S_finish (fun vs H Q E h => ?_) (fun f cdv A outer s H vs Q E hr h => ?_)
  · obtain ⟨_, _, _, _, _, _, rfl, _⟩ := h
    rfl
  · obtain ⟨H0, p, txt, Y, row, s0, rfl, hSr, sm, hwf, hlv, k⟩ := h
    have nd := sc_S_finish.nd
    refine ⟨_, pss_cons (ps_set (i := 1) nd rfl (Or.inl rfl) pe_int)
      (pss_one (ps_while PassesOwn.never (PW.pt (pw_and (pt_not (pt_val (pe_fld (pv 0) rfl))) (pw_and1 (pt_cmpR op_lt (pv 1) (pe_callB call_len_seq (by rfl) T.z_len PySem.boot_len (pa_cons (pe_fld (pv 0) rfl) pa_nil)) (nomark _)))))
        (pss_cons (ps_expr (C8.pe_mt (m_look T) hr (by decide) (pv 0) (pa_cons (pv 1) pa_nil))) (pss_one (ps_aug (i := 1) nd rfl (.inl rfl) pe_int ip_add))))), ?_⟩
    have hyo : YOk Y := by
      obtain ⟨dx, yv, lw, lm, dk, lo, S⟩ := hSr.open
      exact S.hy.ok
    refine ⟨fun m σ H' => ∃ (i : Nat) (met : List YM.Sit) (org : YM.Org YM.Mv) (fd : Bool), σ = [some (.ref p), some (.int ((i : Nat) : Int))] ∧ SrAt P w CS CY H0 H' p txt Y row met org fd ∧
      ((fd = false ∧ YM.Bst Y row s0 met org i ∧ YM.NoGoal row met ∧ i ≤ met.length ∧ m = 4001 - i) ∨ (fd = true ∧ m = 0 ∧ FinOk Y row s0 met org true)), ?_, ?_⟩
    · by_cases hg : s0.gone.length = row.length
      · rw [decide_eq_true hg] at hSr
        exact ⟨0, 0, [s0], [none], true, rfl, hSr, .inr ⟨rfl, rfl, .inl ⟨rfl, .inl ⟨rfl, rfl, hg⟩⟩⟩⟩
      · rw [decide_eq_false hg] at hSr
        exact ⟨4001, 0, [s0], [none], false, rfl, hSr, .inl ⟨rfl, YM.Bst.start hwf hlv, fun s hs => by rw [List.mem_singleton.mp hs]; exact hg, Nat.zero_le _, rfl⟩⟩
    · rintro m σ H' ⟨i, met, org, fd, rfl, hSr', hcase⟩
      obtain ⟨dx, yv, lw, lm, dk, lo, S⟩ := hSr'.open
      obtain ⟨xs, hm, hm2⟩ := S.hm
      refine ⟨_, rfl, p, CS, dx, _, _, rfl, S.hp, T.c_S, T.a_S_found, rfl, fd, rfl, ?_⟩
      rcases hcase with ⟨rfl, hb, hng, hi, rfl⟩ | ⟨rfl, rfl, hf⟩
      · refine iteT ?_
        refine ⟨_, rfl, _, rfl, p, CS, dx, _, _, rfl, S.hp, T.c_S, T.a_S_met, rfl, lm, _, rfl, .inl (SqL.of hm), _, _, rfl, rfl, _, rfl, ?_⟩
        rw [Paired.length hm2]
        by_cases hlt : i < met.length
        · rw [decide_eq_true (by omega)]
          refine iteT ?_
          have hfew := hb.few sm.isRow hyo.pos hyo.most sm.n5 sm.sum
          refine ⟨fun σ' H2 => ∃ (met2 : List YM.Sit) (org2 : YM.Org YM.Mv) (fd2 : Bool), σ' = [some (.ref p), some (.int (((i + 1 : Nat) : Nat) : Int))] ∧ SrAt P w CS CY H0 H2 p txt Y row met2 org2 fd2 ∧ ((fd2 = false ∧ YM.Bst Y row s0 met2 org2 (i + 1) ∧ YM.NoGoal row met2 ∧ i < met2.length) ∨ (fd2 = true ∧ YM.Bst Y row s0 met2 org2 i ∧ YM.Found row met2 org2 i)), ?_, ?_⟩
          · rintro σ' H2 ⟨met2, org2, fd2, rfl, hS2, hc2⟩
            rcases hc2 with ⟨rfl, b2, n2, l2⟩ | ⟨rfl, b2, f2⟩
            · exact ⟨4001 - (i + 1), by omega, i + 1, met2, org2, false, rfl, hS2, .inl ⟨rfl, b2, n2, l2, rfl⟩⟩
            · exact ⟨0, by omega, i + 1, met2, org2, true, rfl, hS2, .inr ⟨rfl, rfl, .inl ⟨rfl, .inr ⟨i, b2, f2⟩⟩⟩⟩
          · refine ⟨_, rfl, p, dx, _, rfl, S.hp, rfl, _, rfl, H0, p, i, txt, Y, row, met, org, s0, rfl, hSr', sm, hb, hng, hlt, fun H2 met2 org2 fd2 hS2 hc2 => ?_⟩
            refine ⟨_, rfl, _, _, rfl, rfl, ?_⟩
            exact ⟨met2, org2, fd2, rfl, hS2, hc2⟩
        · rw [decide_eq_false (by omega)]
          refine iteF ?_
          have e : i = met.length := by omega
          subst e
          exact k _ _ _ _ hSr' (.inr ⟨rfl, hb, hng⟩)
      · exact iteF (k _ _ _ _ hSr' hf)
end
end YW
namespace YW
open PySem L2
theorem Paired.rev {α β : Type} {F : α → β → Prop} : ∀ {l : List α} {r : List β}, Paired F l r → Paired F l.reverse r.reverse
  | _, _, .nil => .nil
  | _, _, .cons h t => by
    rw [List.reverse_cons, List.reverse_cons]
    exact Paired.snoc (Paired.rev t) h
theorem chain_len {org : YM.Org YM.Mv} (hb : ∀ (k j : Nat) (m : YM.Mv), org[k]? = some (some (j, m)) → j < k) {k : Nat} {ms : List YM.Mv} (h : YM.Chain org k ms) : ms.length ≤ k := by
  induction h with
  | zero => exact Nat.le_refl _
  | more h0 e _ ih =>
    have := hb _ _ _ e
    rw [List.length_append, List.length_singleton]
    omega
section
variable {P : Program} {w : World} {K : PySem.W.Frag} {mg : Str → Option Value} {base : Heap} {CG CR CY CS dI dO dT dC : Addr}
def spWay (P : Program) (w : World) (CS CY : Addr) : Sp := fun vs H Q _ => ∃ (H0 : Hp) (p : Addr) (txt : Str) (Y : YM.Yard) (row : List Int) (met : List YM.Sit) (org : YM.Org YM.Mv) (fd : Bool) (full : List YM.Mv), vs = [.ref p] ∧ SrAt P w CS CY H0 H p txt Y row met org fd ∧ met.length ≤ 4000 ∧ 1 ≤ met.length ∧
  (∀ (k j : Nat) (m : YM.Mv), org[k]? = some (some (j, m)) → j < k) ∧ YM.Chain org (met.length - 1) full ∧
  ∀ D H' ys, Same H H' → H D = none → H' D = some (.lst ys) → Paired (MvAt H') ys full → Q (.ref D) H'
theorem m_way (T : Txt K w mg CG CR CY CS dI dO dT dC) : C8.Met P w K mg base 1 CS "way" (spWay P w CS CY) [] := by
  refine met_of T.c_S T.d_S_way b_S_way sc_S_way (fun vs H Q E h => ?_) (fun f cdv A outer s H vs Q E hr h => ?_)
  · obtain ⟨_, _, _, _, _, _, _, _, _, rfl, _⟩ := h
    rfl
  · obtain ⟨H0, p, txt, Y, row, met, org, fd, full, rfl, hSr, h4, h1, hlt, hch, k⟩ := h
    have nd := sc_S_way.nd
    refine ⟨_, pss_cons (ps_set (i := 1) nd rfl (Or.inl rfl) (pe_lst pa_nil))
      (pss_cons (ps_set (i := 2) nd rfl (Or.inl rfl) (pe_op op_sub (pe_callB call_len_seq (by rfl) T.z_len PySem.boot_len (pa_cons (pe_fld (pv 0) rfl) pa_nil)) pe_int))
      (pss_cons (ps_while PassesOwn.never (pt_cmpR op_gt (pv 2) pe_int (nomark _))
        (pss_cons (ps_asg (pe_ix ix_list (pe_fld (pv 0) rfl) (pv 2) (fun _ _ => rfl)) (pg_tup (by rfl) (pgs_cons (pg_name (i := 2) nd rfl (.inl rfl)) (pgs_cons (pg_name (i := 3) nd rfl (.inl rfl)) pgs_nil))))
        (pss_one (ps_expr (pe_bm PySem.F.plainAttrs_list PySem.F.slot_list_append PySem.F.type_list_append mt_append (pv 1) (pa_cons (pv 3) pa_nil))))))
      (pss_cons (ps_expr (pe_bm0 PySem.F.plainAttrs_list PySem.F.slot_list_reverse PySem.F.type_list_reverse mt_reverse (pv 1)))
      (pss_one (ps_ret (pv 1)))))), ?_⟩
    refine ⟨Nat.zero_le _, fun D hD => ?_⟩
    obtain ⟨dx, yv, lw, lm, dk, lo, S⟩ := hSr.open
    obtain ⟨xs, hm, hm2⟩ := S.hm
    obtain ⟨os, ho, ho2⟩ := S.ho
    have a0 : Acc MvAt H (upd H D (.lst [])) D [] := ⟨Same.new hD, hD, [], upd_same, .nil⟩
    have s0 : Same H (upd H D (.lst [])) := Same.new hD
    refine ⟨_, rfl, p, CS, dx, _, _, rfl, s0 _ _ S.hp, T.c_S, T.a_S_met, rfl, lm, _, rfl, .inl (SqL.of (s0 _ _ hm)), _, _, rfl, rfl, ?_⟩
    rw [Paired.length hm2]
    refine ⟨fun m σ H' => ∃ (vm : Option V) (pre rs : List YM.Mv), σ = [some (.ref p), some (.ref D), some (.int ((m : Nat) : Int)), vm] ∧ Acc MvAt H H' D rs ∧ YM.Chain org m pre ∧ full = pre ++ rs.reverse ∧ m ≤ 4000 ∧ rs.length + m ≤ 4000, ?_, ?_⟩
    · refine ⟨met.length - 1, none, full, [], ?_, a0, hch, by simp, by omega, by simp; omega⟩
      show [some (V.ref p), some (V.ref D), some (V.int ((met.length : Nat) - 1 : Int)), none] = _
      rw [show ((met.length : Nat) - 1 : Int) = ((met.length - 1 : Nat) : Int) by omega]
    · rintro m σ H' ⟨vm, pre, rs, rfl, ac, hc, hfull, hm4, hrl⟩
      refine ⟨_, rfl, _, _, rfl, rfl, _, rfl, ?_⟩
      by_cases hm0 : 0 < m
      · rw [decide_eq_true (by omega)]
        refine iteT ?_
        cases hc with
        | zero => exact absurd hm0 (Nat.lt_irrefl _)
        | @more k' j mv ms hk he hcj =>
          have hj := hlt _ _ _ he
          refine ⟨fun σ' H2 => ∃ (vm : Option V), σ' = [some (.ref p), some (.ref D), some (.int ((j : Nat) : Int)), vm] ∧ Acc MvAt H H2 D (rs ++ [mv]), ?_, ?_⟩
          · rintro σ' H2 ⟨vm', rfl, ac2⟩
            refine ⟨j, hj, vm', ms, rs ++ [mv], rfl, ac2, hcj, ?_, by omega, by simp; omega⟩
            rw [hfull]
            simp
          · obtain ⟨ov, hov, hor⟩ := Paired.at ho2 he
            obtain ⟨mvv, ⟨t, rfl, ht⟩, hmv⟩ := hor
            have hoi : atI os ((m : Nat) : Int) = some (.ref t) := atI_nat hov
            refine ⟨_, rfl, p, CS, dx, _, _, rfl, ac.1 _ _ S.hp, T.c_S, T.a_S_origin, rfl, _, rfl, lo, os, _, .ref t, rfl, rfl, SqL.of (ac.1 _ _ ho), hoi, ?_⟩
            refine ⟨t, _, rfl, SqT.of (ac.1 _ _ ht), rfl, _, _, rfl, _, _, rfl, rfl, ?_⟩
            obtain ⟨s1, d1, ms1, e1, r1⟩ := id ac
            refine ⟨_, rfl, .inl ⟨rfl, _, SqL.of e1⟩, _, rfl, D, ms1, _, rfl, rfl, e1, Nat.lt_of_le_of_lt (show ms1.length ≤ 4000 by rw [Paired.length r1]; omega) (by decide), ?_⟩
            exact ⟨_, rfl, Acc.app keepMv ac e1 (hmv.keep (Same.keepT ac.1))⟩
      · have e : m = 0 := by omega
        subst e
        rw [decide_eq_false (by omega)]
        refine iteF ?_
        have hp0 : pre = [] := by
          cases hc with
          | zero => rfl
          | more h _ _ => exact absurd rfl h
        subst hp0
        rw [List.nil_append] at hfull
        obtain ⟨s1, d1, ms1, e1, r1⟩ := ac
        refine ⟨_, rfl, .inl ⟨rfl, _, SqL.of e1⟩, D, ms1, rfl, rfl, e1, ?_⟩
        refine ⟨_, rfl, ?_⟩
        have kt : KeepT H' (upd H' D (.lst ms1.reverse)) := KeepT.put e1 (by intro _ q; cases q)
        refine k D _ _ (Same.put s1 d1) d1 upd_same ?_
        rw [hfull]
        exact Paired.rev (Paired.mapP r1 fun _ _ q => q.keep kt)
/-! ### solve, fewest -/
def SrFin (P : Program) (w : World) (CS CY : Addr) (H0 H : Hp) (p : Addr) (txt : Str) (Y : YM.Yard) (row : List Int) (s0 : YM.Sit) : Prop := ∃ met org fd, SrAt P w CS CY H0 H p txt Y row met org fd ∧ FinOk Y row s0 met org fd
def spSearch (P : Program) (w : World) (K : PySem.W.Frag) (CS CY : Addr) : Sp := fun vs H Q _ => ∃ (v u z : V) (row : List Int) (txt : Str) (Y : YM.Yard) (s : YM.Sit), vs = [v, u, z] ∧ YardAt CY H v txt Y ∧ SqLI K H u row ∧ Small Y row ∧ SitAt H z s ∧ YM.WF Y row s ∧ s.live ∧
  ∀ p H', SrFin P w CS CY H H' p txt Y row s → Q (.ref p) H'
theorem c_search_from (T : Txt K w mg CG CR CY CS dI dO dT dC) : C8.Cal P w K mg base 6 "search_from" (spSearch P w K CS CY) [] := by
  refine cal_of T.d_search_from b_search_from sc_search_from (fun vs H Q E h => ?_) (fun f cdv A outer s H vs Q E hr h => ?_)
  · obtain ⟨_, _, _, _, _, _, _, rfl, _⟩ := h
    rfl
  · obtain ⟨v, u, z, row, txt, Y, st, rfl, hY, hR, sm, hS, hwf, hlv, k⟩ := h
    have nd := sc_search_from.nd
    refine ⟨_, pss_cons (ps_set (i := 3) nd rfl (Or.inl rfl) (C8.pe_mk (k_init T) hr (by decide) rfl (pa_cons (pv 0) (pa_cons (pv 1) (pa_cons (pv 2) pa_nil)))))
      (pss_cons (ps_expr (C8.pe_mt0 (m_finish T) hr (by decide) (pv 3))) (pss_one (ps_ret (pv 3)))), ?_⟩
    refine ⟨_, rfl, _, rfl, _, rfl, fun p dx hp hdx hne => ?_⟩
    refine ⟨H, p, dx, v, u, z, row, txt, Y, st, rfl, ?_, hp, upd_same, hY, hR, Nat.le_trans sm.n5 (by decide), hS, fun H1 hSr => ⟨rfl, ?_⟩⟩
    · exact Same.put (Same.new hdx) hp
    obtain ⟨ddx, yv, lw, lm, dk, lo, S⟩ := hSr.open
    refine ⟨_, rfl, p, ddx, _, rfl, S.hp, rfl, H, p, txt, Y, row, st, rfl, hSr, sm, hwf, hlv, fun H2 met org fd h2 hf => ?_⟩
    exact ⟨_, rfl, k p H2 ⟨met, org, fd, h2, hf⟩⟩
theorem FinOk.len {Y : YM.Yard} {row : List Int} {s0 : YM.Sit} {met : List YM.Sit} {org : YM.Org YM.Mv} (sm : Small Y row) (hyo : YOk Y) (h : FinOk Y row s0 met org true) : 1 ≤ met.length ∧ met.length ≤ 4000 ∧ (∀ (k j : Nat) (m : YM.Mv), org[k]? = some (some (j, m)) → j < k) ∧ ∃ full, YM.Chain org (met.length - 1) full := by
  rcases h with ⟨_, ⟨rfl, rfl, _⟩ | ⟨i, hb, hf⟩⟩ | ⟨h, _⟩
  · refine ⟨Nat.le_refl _, (show 1 ≤ 4000 by decide), fun k j m e => ?_, [], .zero⟩
    cases k with
    | zero => cases e
    | succ k => cases e
  · obtain ⟨met0, g, m, rfl, _⟩ := hf
    have h1 : 1 ≤ (met0 ++ [g]).length := by simp
    exact ⟨h1, hb.few sm.isRow hyo.pos hyo.most sm.n5 sm.sum, fun k j m e => (hb.bi.bound e).2, hb.bi.chain _ (by omega)⟩
  · cases h
theorem FinOk.yes {Y : YM.Yard} {row : List Int} {met : List YM.Sit} {org : YM.Org YM.Mv} {full : List YM.Mv} (h : FinOk Y row (YM.init Y.kinds.length) met org true) (hc : YM.Chain org (met.length - 1) full) : YM.SolveOk Y row (some full) := by
  rcases h with ⟨_, ⟨rfl, rfl, hg⟩ | ⟨i, hb, hf⟩⟩ | ⟨h, _⟩
  · exact YM.solve_now hg hc
  · exact YM.solve_found hb hf hc
  · cases h
theorem FinOk.no {Y : YM.Yard} {row : List Int} {met : List YM.Sit} {org : YM.Org YM.Mv} (h : FinOk Y row (YM.init Y.kinds.length) met org false) : YM.SolveOk Y row none := by
  rcases h with ⟨h, _⟩ | ⟨_, hb, hng⟩
  · cases h
  · exact YM.solve_never hb hng
/-- a list of moves, or None -/
def WayAt (H : Hp) : V → Option (List YM.Mv) → Prop
  | v, none => v = .non
  | v, some ms => ∃ D ys, v = .ref D ∧ H D = some (.lst ys) ∧ Paired (MvAt H) ys ms
def spSolve (K : PySem.W.Frag) (CY : Addr) : Sp := fun vs H Q _ => ∃ (v u : V) (row : List Int) (txt : Str) (Y : YM.Yard), vs = [v, u] ∧ YardAt CY H v txt Y ∧ RowIn K H u row ∧ Small Y row ∧
  ∀ r H' ms, Same H H' → WayAt H' r ms → YM.SolveOk Y row ms → (∀ l, ms = some l → l.length ≤ 4000) → Q r H'
theorem c_solve (T : Txt K w mg CG CR CY CS dI dO dT dC) : C8.Cal P w K mg base 7 "solve" (spSolve K CY) [] := by
  refine cal_of T.d_solve b_solve sc_solve (fun vs H Q E h => ?_) (fun f cdv A outer s H vs Q E hr h => ?_)
  · obtain ⟨_, _, _, _, _, rfl, _⟩ := h
    rfl
  · obtain ⟨v, u, row, txt, Y, rfl, hY, hR, sm, k⟩ := h
    have nd := sc_solve.nd
    refine ⟨_, pss_cons (ps_set (i := 2) nd rfl (Or.inl rfl) (C8.pe_c (c_search_from (P := P) (w := w) (K := K) (mg := mg) (base := base) T) hr (by decide) rfl (pa_cons (pv 0) (pa_cons (pv 1) (pa_cons (C8.pe_c (c_first T) hr (by decide) rfl (pa_cons (pv 0) (pa_cons (pv 1) pa_nil))) pa_nil)))))
      (pss_cons (ps_if (pt_val (pe_fld (pv 2) rfl)) (pss_one (ps_ret (C8.pe_mt0 (m_way (P := P) (w := w) (K := K) (mg := mg) (base := base) T) hr (by decide) (pv 2)))) pss_nil) (pss_one (ps_ret pe_non))), ?_⟩
    have hyo := hY.ok
    obtain ⟨ra, rfl, hRa, hR60, hRr⟩ := id hR
    refine ⟨_, rfl, _, rfl, _, rfl, _, rfl, _, _, row, txt, Y, rfl, hY, hR, fun z H1 s1 hz => ?_⟩
    refine ⟨_, _, z, row, txt, Y, _, rfl, hY.same s1, ⟨ra, rfl, s1.seq hRa⟩, sm, hz, YM.WF.init Y row, rfl, fun p H2 hfin => ?_⟩
    obtain ⟨met, org, fd, hSr, hf⟩ := hfin
    obtain ⟨ddx, yv, lw, lm, dk, lo, S⟩ := hSr.open
    refine ⟨_, rfl, p, CS, ddx, _, _, rfl, S.hp, T.c_S, T.a_S_found, rfl, fd, rfl, ?_⟩
    cases fd with
    | true =>
      refine iteT ?_
      obtain ⟨h1, h2, h3, full, hc⟩ := hf.len sm hyo
      refine ⟨_, rfl, p, ddx, _, rfl, S.hp, rfl, H1, p, txt, Y, row, met, org, true, full, rfl, hSr, h2, h1, h3, hc, fun D H3 ys s3 hD0 hD hpr => ?_⟩
      exact k _ _ (some full) ((s1.trans hSr.same).trans s3) ⟨D, ys, rfl, hD, hpr⟩ (hf.yes hc) (fun l e => by cases e; have := chain_len h3 hc; omega)
    | false =>
      refine iteF ?_
      exact k _ _ none (s1.trans hSr.same) rfl hf.no (fun l e => by cases e)
def spFewest (K : PySem.W.Frag) (CY : Addr) : Sp := fun vs H Q _ => ∃ (v u : V) (row : List Int) (txt : Str) (Y : YM.Yard), vs = [v, u] ∧ YardAt CY H v txt Y ∧ RowIn K H u row ∧ Small Y row ∧
  ∀ H' (ms : Option (List YM.Mv)), Same H H' → YM.SolveOk Y row ms → Q (match ms with | none => .non | some ms => .int ((ms.length : Nat) : Int)) H'
theorem c_fewest (T : Txt K w mg CG CR CY CS dI dO dT dC) : C8.Cal P w K mg base 8 "fewest" (spFewest K CY) [] := by
  refine cal_of T.d_fewest b_fewest sc_fewest (fun vs H Q E h => ?_) (fun f cdv A outer s H vs Q E hr h => ?_)
  · obtain ⟨_, _, _, _, _, rfl, _⟩ := h
    rfl
  · obtain ⟨v, u, row, txt, Y, rfl, hY, hR, sm, k⟩ := h
    have nd := sc_fewest.nd
    refine ⟨_, pss_cons (ps_set (i := 2) nd rfl (Or.inl rfl) (C8.pe_c (c_solve T) hr (by decide) rfl (pa_cons (pv 0) (pa_cons (pv 1) pa_nil))))
      (pss_cons (ps_if (pt_cmpR op_isN (pv 2) pe_non (nomark _)) (pss_one (ps_ret pe_non)) pss_nil)
      (pss_one (ps_ret (pe_callB call_len_seq (by rfl) T.z_len PySem.boot_len (pa_cons (pv 2) pa_nil))))), ?_⟩
    refine ⟨_, rfl, _, rfl, _, _, row, txt, Y, rfl, hY, hR, sm, fun r H1 ms s1 hw hok _ => ?_⟩
    refine ⟨_, rfl, rfl, _, rfl, ?_⟩
    cases ms with
    | none =>
      cases (show r = .non from hw)
      rw [decide_eq_true rfl]
      exact iteT (k _ none s1 hok)
    | some ms =>
      obtain ⟨D, ys, rfl, hD, hpr⟩ := hw
      rw [decide_eq_false (by intro q; cases q)]
      refine iteF ?_
      refine ⟨_, rfl, D, ys, rfl, .inl (SqL.of hD), ?_⟩
      rw [Paired.length hpr]
      exact k _ (some ms) s1 hok
end
end YW
namespace YW
open PySem L2
/-- a loop over enumerate(list) -/
theorem for_enumL {K : PySem.W.Frag} {a : Addr} {xs : List V} {g : TG} {tb : TS} {σ0 : L2.St} {H0 : Hp} {D : Ends} (Pv : Nat → L2.St → Hp → Prop) (h0 : Pv 0 σ0 H0) (hl : ∀ i σ H, i ≤ xs.length → Pv i σ H → SqL K H a xs)
    (hs : ∀ (i : Nat) (x : V) (T : Addr) (σ : L2.St) (H : Hp), xs[i]? = some x → Pv i σ H → H T = none → g (.ref T) σ (upd H T (.tup [.int (i : Nat), x])) fun σ2 H2 => tb { D with nx := Pv (i + 1), ct := Pv (i + 1), bk := D.nx } σ2 H2)
    (hd : ∀ σ H, Pv xs.length σ H → D.nx σ H) :
    ∃ W : Nat → Nat → L2.St → Hp → Prop, (∃ m, W 0 m σ0 H0) ∧ ∀ i m σ H, W i m σ H →
      ((Ite K a).stop i H ∧ D.nx σ H) ∨ ((Ite K a).go i H ∧ ∃ N : L2.St → Hp → Prop, (∀ σ' H', N σ' H' → ∃ m', m' < m ∧ W (i + 1) m' σ' H') ∧
        ∀ v H', (Ite K a).yld i H v H' → g v σ H' fun σ2 H2 => tb { D with nx := N, ct := N, bk := D.nx } σ2 H2) := by
  refine ⟨fun i m σ H => m = xs.length - i ∧ i ≤ xs.length ∧ Pv i σ H, ⟨xs.length, by simp, Nat.zero_le _, h0⟩, ?_⟩
  rintro i m σ H ⟨rfl, hi, p⟩
  have q := hl i σ H hi p
  by_cases hlt : i < xs.length
  · refine .inr ⟨⟨xs, xs[i], q, by simp [hlt]⟩, Pv (i + 1), fun σ' H' p' => ⟨xs.length - (i + 1), by omega, rfl, hlt, p'⟩, fun v H' y => ?_⟩
    obtain ⟨T, x, rfl, hT, rfl, hx⟩ := y
    exact hs i x T σ H (hx _ q) p hT
  · have e : i = xs.length := by omega
    subst e
    exact .inl ⟨⟨xs, q, Nat.le_refl _⟩, hd σ H p⟩
/-! ### moves as data -/
def mvD (m : YM.Mv) : PyData := .tuple [.int m.1, .int m.2.1, .int m.2.2.1, .int m.2.2.2]
theorem mvD_lay (m : YM.Mv) : (mvD m).canLay0 = true := by simp [mvD, PyData.canLay0, PyData.canLayAll0]
theorem mvD_depth (m : YM.Mv) : (mvD m).depth = 1 := by simp [mvD, PyData.depth, PyData.depthAll]
theorem mvDs_lay : ∀ ms : List YM.Mv, PyData.canLayAll0 (ms.map mvD) = true
  | [] => by simp [PyData.canLayAll0]
  | m :: ms => by simp [PyData.canLayAll0, mvD_lay m, mvDs_lay ms]
theorem mvDs_depth : ∀ ms : List YM.Mv, PyData.depthAll (ms.map mvD) ≤ 1
  | [] => by simp [PyData.depthAll]
  | m :: ms => by
    have h1 := mvDs_depth ms
    have h2 := mvD_depth m
    simp only [List.map_cons, PyData.depthAll]
    omega
theorem mvD_shaped (m : YM.Mv) : SeqAt.shaped (mvD m) = true := by
  have h := mvD_depth m
  show ((mvD m).canLay0 && decide ((mvD m).depth ≤ 64)) = true
  rw [Bool.and_eq_true]
  exact ⟨mvD_lay m, decide_eq_true (by omega)⟩
theorem mvDs_shaped (ms : List YM.Mv) : SeqAt.shaped (.list (ms.map mvD)) = true := by
  have h1 := mvDs_depth ms
  have h2 : PyData.depth (.list (ms.map mvD)) ≤ 64 := by
    simp only [PyData.depth]
    omega
  show (PyData.canLay0 (.list (ms.map mvD)) && decide (PyData.depth (.list (ms.map mvD)) ≤ 64)) = true
  rw [Bool.and_eq_true]
  exact ⟨by simp only [PyData.canLay0]; exact mvDs_lay ms, decide_eq_true h2⟩
theorem mvD_self (m : YM.Mv) : PyData.eqv (mvD m) (mvD m) = true := SeqAt.eqv_refl _ (mvD_lay m)
theorem mv_in {m : YM.Mv} {ms : List YM.Mv} (h : m ∈ ms) : ((ms.map mvD).any fun z => PyData.eqv z (mvD m)) = true := by
  rw [List.any_eq_true]
  exact ⟨mvD m, List.mem_map.mpr ⟨m, h, rfl⟩, mvD_self m⟩
theorem dp_mv {K : PySem.W.Frag} {H : Hp} {v : V} {m : YM.Mv} (h : MvAt H v m) : Dp K H v (mvD m) := by
  obtain ⟨a, rfl, e⟩ := h
  exact .tup (SqT.of e) (.cons (.int _) (.cons (.int _) (.cons (.int _) (.cons (.int _) .nil))))
theorem dp_mvs {K : PySem.W.Frag} {H : Hp} : ∀ {xs : List V} {ms : List YM.Mv}, Paired (MvAt H) xs ms → DpAll K H xs (ms.map mvD)
  | _, _, .nil => .nil
  | _, _, .cons h t => .cons (dp_mv h) (dp_mvs t)
theorem Paired.last {α β : Type} {F : α → β → Prop} {l : List α} {r : List β} {y : β} (h : Paired F l (r ++ [y])) : ∃ l0 x, l = l0 ++ [x] ∧ F x y := by
  have hl := Paired.length h
  rw [List.length_append, List.length_singleton] at hl
  obtain ⟨x, h1, h2⟩ := Paired.at h (k := r.length) (y := y) (by simp)
  refine ⟨l.take r.length, x, ?_, h2⟩
  rw [← take_succ_get h1, List.take_of_length_le (by omega)]
theorem run_take {Y : YM.Yard} {row : List Int} {s t : YM.Sit} {ms : List YM.Mv} {m : YM.Mv} (h : YM.Run (YM.Mk Y row) s (m :: ms) t) : YM.Can Y row.length s m ∧ YM.Run (YM.Mk Y row) (YM.aft row s m) ms t := by
  obtain ⟨u, ⟨c, rfl⟩, r⟩ := h
  exact ⟨c, r⟩
section
variable {P : Program} {w : World} {K : PySem.W.Frag} {mg : Str → Option Value} {base : Heap} {CG CR CY CS dI dO dT dC : Addr}
def MvsIn (K : PySem.W.Frag) (H : Hp) (v : V) (ms : List YM.Mv) : Prop := ∃ a ys, v = .ref a ∧ SqL K H a ys ∧ Paired (MvAt H) ys ms
theorem MvsIn.same {H H' : Hp} (s : Same H H') {v : V} {ms : List YM.Mv} (h : MvsIn K H v ms) : MvsIn K H' v ms := let ⟨a, ys, e, q, r⟩ := h; ⟨a, ys, e, s.seq q, Paired.mapP r fun _ _ q => q.keep (Same.keepT s)⟩
def spReplay (K : PySem.W.Frag) (CY : Addr) : Sp := fun vs H Q _ => ∃ (v u z : V) (row : List Int) (txt : Str) (Y : YM.Yard) (ms : List YM.Mv) (t : YM.Sit), vs = [v, u, z] ∧ YardAt CY H v txt Y ∧ RowIn K H u row ∧ row.length ≤ 5 ∧ MvsIn K H z ms ∧ ms.length ≤ 10000 ∧ YM.Run (YM.Mk Y row) (YM.init Y.kinds.length) ms t ∧
  ∀ D H' xs r, Same H H' → H' D = some (.lst (xs ++ [r])) → SitAt H' r t → Q (.ref D) H'
theorem c_replay (T : Txt K w mg CG CR CY CS dI dO dT dC) : C8.Cal P w K mg base 4 "replay" (spReplay K CY) [] := by
  refine cal_of T.d_replay b_replay sc_replay (fun vs H Q E h => ?_) (fun f cdv A outer s H vs Q E hr h => ?_)
  · obtain ⟨_, _, _, _, _, _, _, _, rfl, _⟩ := h
    rfl
  · obtain ⟨v, u, z, row, txt, Y, ms, t, rfl, hY, hR, h5, hM, hml, hrun, k⟩ := h
    have nd := sc_replay.nd
    refine ⟨_, pss_cons (ps_set (i := 3) nd rfl (Or.inl rfl) (pe_lst (pa_cons (C8.pe_c (c_first T) hr (by decide) rfl (pa_cons (pv 0) (pa_cons (pv 1) pa_nil))) pa_nil)))
      (pss_cons (ps_for PassesOwn.never rfl (pi_enum (by rfl) T.z_enumerate (pa_cons (pv 2) pa_nil)) (pg_tup (by rfl) (pgs_cons (pg_name (i := 4) nd rfl (.inl rfl)) (pgs_cons (pg_name (i := 5) nd rfl (.inl rfl)) pgs_nil)))
        (pss_cons (ps_if (pt_cmpR (op_notInD (by have := hr.un; show (A.deeper _).units + 65 < cLine; omega)) (pv 5) (C8.pe_c (c_possible T) hr (by decide) rfl (pa_cons (pv 0) (pa_cons (pv 1) (pa_cons (pe_ix ix_list (pv 3) (pe_un un_neg pe_int) (fun _ _ => rfl)) pa_nil)))) (by rfl)) (pss_one ps_never) pss_nil)
        (pss_one (ps_expr (pe_bm PySem.F.plainAttrs_list PySem.F.slot_list_append PySem.F.type_list_append mt_append (pv 3) (pa_cons (C8.pe_c (c_after T) hr (by decide) rfl (pa_cons (pv 1) (pa_cons (pe_ix ix_list (pv 3) (pe_un un_neg pe_int) (fun _ _ => rfl)) (pa_cons (pv 5) pa_nil)))) pa_nil))))))
      (pss_one (ps_ret (pv 3)))), ?_⟩
    have hyo := hY.ok
    obtain ⟨ma, ys, rfl, hMa, hMp⟩ := id hM
    obtain ⟨ra, rfl, hRa, hR60, hRr⟩ := id hR
    refine ⟨_, rfl, _, rfl, _, _, row, txt, Y, rfl, hY, hR, fun z H1 s1 hz => ?_⟩
    refine ⟨by show 1 ≤ sizeLine; decide, fun D hD => ?_⟩
    have a0 : Acc SitAt H (upd H1 D (.lst [z])) D [YM.init Y.kinds.length] := ⟨Same.add s1 hD, s1.free hD, [z], upd_same, .cons (hz.keep (KeepT.new hD)) .nil⟩
    refine ⟨_, rfl, ma, ys, rfl, (Same.add s1 hD).seq hMa, ?_⟩
    refine for_enumL (K := K) (a := ma) (xs := ys) (fun i σ H' => ∃ (x4 x5 : Option V) (ss : List YM.Sit) (s : YM.Sit), σ = [some v, some (.ref ra), some (.ref ma), some (.ref D), x4, x5] ∧ Acc SitAt H H' D (ss ++ [s]) ∧ ss.length = i ∧ YM.WF Y row s ∧ YM.Run (YM.Mk Y row) s (ms.drop i) t)
      ⟨none, none, [], _, rfl, a0, rfl, YM.WF.init Y row, (by rw [List.drop_zero]; exact hrun)⟩ (fun i σ H' _ ⟨_, _, _, _, _, a, _⟩ => a.1.seq hMa) ?_ ?_
    · rintro i x Tt σ H' hi ⟨x4, x5, ss, s, rfl, ac, hsl, hwf, hrn⟩ hTt
      obtain ⟨m, hm, hmv⟩ := Paired.get hMp hi
      have hdr : ms.drop i = m :: ms.drop (i + 1) := by
        obtain ⟨h1, h2⟩ := List.getElem?_eq_some_iff.mp hm
        rw [List.drop_eq_getElem_cons h1, h2]
      rw [hdr] at hrn
      obtain ⟨hcan, hrn⟩ := run_take hrn
      have ac1 := Acc.new (o := .tup [.int ((i : Nat) : Int), x]) keepSit ac hTt
      generalize hH1 : upd H' Tt (.tup [.int ((i : Nat) : Int), x]) = H1' at ac1 ⊢
      refine ⟨Tt, _, rfl, SqT.of (by rw [← hH1]; exact upd_same), rfl, _, _, rfl, _, _, rfl, rfl, ?_⟩
      obtain ⟨s2, D0, xs, hxs, hpr⟩ := id ac1
      obtain ⟨xs0, r, rfl, hrs⟩ := Paired.last hpr
      have hil := (List.getElem?_eq_some_iff.mp hm).1
      refine ⟨_, rfl, _, rfl, _, rfl, _, rfl, 1, rfl, D, _, _, r, rfl, rfl, SqL.of hxs, atI_last _ _, ?_⟩
      refine ⟨_, _, _, row, txt, Y, s, rfl, hY.same s2, ⟨ra, rfl, s2.seq hRa⟩, hrs, hwf.len, fun pm H2 mvs pms s3 pm0 hpm hpmr hall hlen => ?_⟩
      have hmv2 : MvAt H2 x m := (hmv.keep (Same.keepT s2)).keep (Same.keepT s3)
      refine ⟨mvD m, pms.map mvD, dp_mv hmv2, .lst (SqL.of hpm) (dp_mvs hpmr), mvD_shaped m, mvDs_shaped pms, _, rfl, ?_⟩
      rw [mv_in ((hall m).mpr hcan)]
      refine iteF ?_
      have ac2 := Acc.same keepSit ac1 s3
      have hsm := wf_small hwf h5 hyo.most
      refine ⟨_, rfl, .inl ⟨rfl, _, SqL.of (s3 _ _ hxs)⟩, _, rfl, _, rfl, 1, rfl, D, _, _, r, rfl, rfl, SqL.of (s3 _ _ hxs), atI_last _ _, _, rfl, ?_⟩
      refine ⟨_, _, _, row, s, m, rfl, ⟨ra, rfl, (s2.trans s3).seq hRa⟩, hrs.keep (Same.keepT s3), hmv2, .of hyo.lk hwf.len hcan, hsm.1, hsm.2.1, hsm.2.2, fun fv H3 s4 hf => ?_⟩
      have ac3 := Acc.same keepSit ac2 s4
      have hxs3 := s4 _ _ (s3 _ _ hxs)
      refine ⟨D, _, _, rfl, rfl, hxs3, Nat.lt_of_le_of_lt (show (xs0 ++ [r]).length ≤ 10001 from ?_) (by decide), ?_⟩
      · rw [Paired.length hpr, List.length_append, List.length_singleton]
        omega
      · refine ⟨_, _, ss ++ [s], _, rfl, Acc.app keepSit ac3 hxs3 hf, by simp [hsl], hwf.aft hyo.lk hcan, hrn⟩
    · rintro σ H' ⟨x4, x5, ss, s, rfl, ac, hsl, hwf, hrn⟩
      rw [Paired.length hMp, List.drop_length] at hrn
      cases (show s = t from hrn)
      obtain ⟨s2, D0, xs, hxs, hpr⟩ := ac
      obtain ⟨xs0, r, rfl, hrs⟩ := Paired.last hpr
      exact ⟨_, rfl, k D H' xs0 r s2 hxs hrs⟩
def spSorts (K : PySem.W.Frag) (CY : Addr) : Sp := fun vs H Q _ => ∃ (v u z : V) (row : List Int) (txt : Str) (Y : YM.Yard) (ms : List YM.Mv), vs = [v, u, z] ∧ YardAt CY H v txt Y ∧ RowIn K H u row ∧ row.length ≤ 5 ∧ MvsIn K H z ms ∧ ms.length ≤ 10000 ∧ YM.Way Y row ms ∧
  ∀ H', Same H H' → Q (.bl true) H'
theorem c_sorts (T : Txt K w mg CG CR CY CS dI dO dT dC) : C8.Cal P w K mg base 5 "sorts" (spSorts K CY) [] := by
  refine cal_of T.d_sorts b_sorts sc_sorts (fun vs H Q E h => ?_) (fun f cdv A outer s H vs Q E hr h => ?_)
  · obtain ⟨_, _, _, _, _, _, _, rfl, _⟩ := h
    rfl
  · obtain ⟨v, u, z, row, txt, Y, ms, rfl, hY, hR, h5, hM, hml, ⟨t, hrun, hdone⟩, k⟩ := h
    have nd := sc_sorts.nd
    refine ⟨_, pss_cons (ps_try_thru0 (pss_one (ps_set (i := 3) nd rfl (Or.inl rfl) (C8.pe_c (c_replay (P := P) (w := w) (K := K) (mg := mg) (base := base) T) hr (by decide) rfl (pa_cons (pv 0) (pa_cons (pv 1) (pa_cons (pv 2) pa_nil)))))))
      (pss_one (ps_ret (pe_cmpR (op_eqD hr.units) (pe_callTy call_list_of (by rfl) T.z_list (by decide +kernel) (pa_cons (pe_ix ix_tup (pe_ix ix_list (pv 3) (pe_un un_neg pe_int) (fun _ _ => rfl)) pe_int (fun _ _ => rfl)) pa_nil))
        (pe_listRg rfl (by rfl) T.z_list (prg_2 (by rfl) T.z_range pe_int (pe_op op_add (pe_callB call_len_seq (by rfl) T.z_len PySem.boot_len (pa_cons (pv 1) pa_nil)) pe_int))) (nomark _)))), ?_⟩
    obtain ⟨ra, rfl, hRa, hR60, hRr⟩ := id hR
    refine ⟨_, rfl, _, rfl, _, rfl, _, _, _, row, txt, Y, ms, t, rfl, hY, hR, h5, hM, hml, hrun, fun D H1 xs r s1 hD hr1 => ?_⟩
    obtain ⟨a, b, c, hs, rfl, h1, h2, h3, h4⟩ := hr1
    refine ⟨_, rfl, 1, rfl, D, _, _, .ref a, rfl, rfl, SqL.of hD, atI_last _ _, a, _, 2, .ref c, rfl, rfl, SqT.of h1, rfl, c, _, rfl, .inr (SqT.of h4), fun p hp => ?_⟩
    have s2 : Same H1 (upd H1 p (.lst (t.gone.map V.int))) := Same.new hp
    refine ⟨_, rfl, ra, _, rfl, .inl ((s1.trans s2).seq hRa), _, _, rfl, rfl, 1, _, rfl, rfl, .of_le (by decide) (by rw [lenVI]; omega) (by decide) (by omega), fun q hq => ?_⟩
    rw [lenVI, rgV_up]
    have s3 := Same.new (o := .lst ((YM.upTo row.length).map V.int)) hq
    refine ⟨_, _, dp_ints (SqL.of (s3 _ _ upd_same)), dp_ints (SqL.of upd_same), PySem.W.ke_shaped_ints _, PySem.W.ke_shaped_ints _, ?_⟩
    rw [eqv_list_ints, decide_eq_true (show t.gone = YM.upTo row.length from hdone)]
    exact k _ ((s1.trans s2).trans s3)
end
end YW
namespace YW
open PySem L2
/-- a dict comprehension over enumerate(list) -/
theorem dc_enum {K : PySem.W.Frag} {a : Addr} {xs : List V} {g : TG} {tt : TT} {tk tv : TE} {vs : List Nat} {σ : L2.St} {H1 : Hp} {D : Addr} {Qd : Hp → Prop} (Pv : Nat → Hp → Prop) (h0 : Pv 0 (upd H1 D (.dK []))) (hl : ∀ i H, i ≤ xs.length → Pv i H → SqL K H a xs)
    (hs : ∀ (i : Nat) (x : V) (T : Addr) (H : Hp), xs[i]? = some x → Pv i H → H T = none → g (.ref T) (wipe σ vs) (upd H T (.tup [.int (i : Nat), x])) fun σ2 H2 => wipe σ2 vs = wipe σ vs ∧ tt σ2 H2 fun b H3 =>
      if b = true then tk σ2 H3 fun y H4 => tv σ2 H4 fun z H5 => ∃ kvs k, y = kV k ∧ H5 D = some (.dK kvs) ∧ kvs.length < sizeLine ∧ Pv (i + 1) (upd H5 D (.dK (putK kvs k z))) else Pv (i + 1) H3) (hd : ∀ H, Pv xs.length H → Qd H) :
    ∃ W : Nat → Nat → Hp → Prop, (∃ m, W 0 m (upd H1 D (.dK []))) ∧ ∀ i m H, W i m H →
      ((Ite K a).stop i H ∧ Qd H) ∨ ((Ite K a).go i H ∧ ∃ Nx : Hp → Prop, (∀ H', Nx H' → ∃ m', m' < m ∧ W (i + 1) m' H') ∧ ∀ x H', (Ite K a).yld i H x H' → g x (wipe σ vs) H' fun σ2 H2 => wipe σ2 vs = wipe σ vs ∧ tt σ2 H2 fun b H3 =>
        if b = true then tk σ2 H3 fun y H4 => tv σ2 H4 fun z H5 => ∃ kvs k, y = kV k ∧ H5 D = some (.dK kvs) ∧ kvs.length < sizeLine ∧ Nx (upd H5 D (.dK (putK kvs k z))) else Nx H3) := by
  refine ⟨fun i m H => m = xs.length - i ∧ i ≤ xs.length ∧ Pv i H, ⟨xs.length, by simp, Nat.zero_le _, h0⟩, ?_⟩
  rintro i m H ⟨rfl, hi, p⟩
  have q := hl i H hi p
  by_cases hlt : i < xs.length
  · refine .inr ⟨⟨xs, xs[i], q, by simp [hlt]⟩, Pv (i + 1), fun H' p' => ⟨xs.length - (i + 1), by omega, rfl, hlt, p'⟩, fun v H' y => ?_⟩
    obtain ⟨T, x, rfl, hT, rfl, hx⟩ := y
    exact hs i x T H (hx _ q) p hT
  · have e : i = xs.length := by omega
    subst e
    exact .inl ⟨⟨xs, q, Nat.le_refl _⟩, hd H p⟩
section
variable {P : Program} {w : World} {K : PySem.W.Frag} {mg : Str → Option Value} {base : Heap} {CG CR CY CS dI dO dT dC : Addr}
def spTRow (K : PySem.W.Frag) : Sp := fun vs H Q _ => ∃ (u : V) (row : List Int), vs = [u] ∧ RowIn K H u row ∧ row.length ≤ 5 ∧ ∀ p H', Same H H' → H' p = some (.lst ((YM.trow row).map V.int)) → Q (.ref p) H'
theorem c_turned_row (T : Txt K w mg CG CR CY CS dI dO dT dC) : C8.Cal P w K mg base 3 "turned_row" (spTRow K) [] := by
  refine cal_of T.d_turned_row b_turned_row sc_turned_row (fun vs H Q E h => ?_) (fun f cdv A outer s H vs Q E hr h => ?_)
  · obtain ⟨_, _, rfl, _⟩ := h
    rfl
  · obtain ⟨u, row, rfl, hR, h5, k⟩ := h
    have nd := sc_turned_row.nd
    refine ⟨_, pss_cons (ps_expr (C8.pe_c (c_check_row T) hr (by decide) rfl (pa_cons (pv 0) pa_nil)))
      (pss_cons (ps_set (i := 1) nd rfl (Or.inr rfl) (pe_callB call_len_seq (by rfl) T.z_len PySem.boot_len (pa_cons (pv 0) pa_nil)))
      (pss_cons (ps_set (i := 2) nd rfl (Or.inr rfl) (pe_dc (own := [("at", 4), ("wagon", 3)]) (g := gTup K 2 (gCons (gName 4) (gCons (gName 3) gNil))) (tt := tYes) rfl nd (pi_enum (by rfl) T.z_enumerate (pa_cons (pv 0) pa_nil))
        (blkOk_by (own := [("at", 4), ("wagon", 3)]) (N := n_turned_row) (sc := C8.fnScope s_turned_row) (by decide +kernel)) (fun _ _ _ _ _ => pg_tup (by rfl) (pgs_cons (pg_name (i := 4) nd rfl (.inl rfl)) (pgs_cons (pg_name (i := 3) nd rfl (.inl rfl)) pgs_nil))) (fun _ _ _ _ _ => pts_nil) (fun _ _ _ _ _ => pv 3) (fun _ _ _ _ _ => pv 4)))
      (pss_one (ps_ret (pe_lc (own := [("at", 4)]) (g := gName 4) (tt := tYes) rfl nd (pi_range1 (by rfl) T.z_range (pa_cons (pv 1) pa_nil))
        (blkOk_by (own := [("at", 4)]) (N := n_turned_row) (sc := C8.fnScope s_turned_row) (by decide +kernel)) (fun _ _ _ _ _ => pg_name (i := 4) nd rfl (Or.inl rfl)) (fun _ _ _ _ _ => pts_nil) (fun _ _ _ _ _ => pe_op op_sub (pv 1) (pe_dget (hu_of hr) (pv 2) (pe_op op_sub (pv 1) (pv 4)) (fun _ _ => rfl)))))))), ?_⟩
    obtain ⟨ra, rfl, hRa, hR60, hRr⟩ := id hR
    refine ⟨_, rfl, _, row, rfl, hR, fun H1 s1 => ?_⟩
    refine ⟨_, rfl, ra, _, rfl, .inl (s1.seq hRa), ?_⟩
    rw [lenVI]
    refine ⟨_, rfl, ra, _, rfl, s1.seq hRa, fun D hD => ?_⟩
    refine dc_enum (K := K) (a := ra) (xs := row.map V.int) (fun i H' => Same H1 H' ∧ ∃ kvs : List (Key × V), H' D = some (.dK kvs) ∧ kvs.length ≤ i ∧ ∀ j, j < i → ∀ wg, row[j]? = some wg → valV kvs (Sum.inl wg) = some (.int ((j : Nat) : Int)))
      ⟨Same.new hD, [], upd_same, Nat.le_refl _, fun j hj => absurd hj (Nat.not_lt_zero _)⟩ (fun i H' _ ⟨s2, _⟩ => (s1.trans s2).seq hRa) ?_ ?_
    · rintro i x Tt H' hi ⟨s2, kvs, hkv, hkl, hkj⟩ hTt
      rw [List.getElem?_map] at hi
      obtain ⟨wg, hwg, rfl⟩ := Option.map_eq_some_iff.mp hi
      refine ⟨Tt, _, rfl, SqT.of upd_same, rfl, _, _, rfl, _, _, rfl, rfl, rfl, tyes_go ?_⟩
      have hDT : upd H' Tt (.tup [.int ((i : Nat) : Int), .int wg]) D = some (.dK kvs) := by rw [upd_ne (ne_of_none hkv hTt)]; exact hkv
      have hil := (List.getElem?_eq_some_iff.mp hwg).1
      refine ⟨_, rfl, _, rfl, kvs, Sum.inl wg, rfl, hDT, Nat.lt_of_le_of_lt (show kvs.length ≤ 5 by omega) (by decide), Same.put (Same.add s2 hTt) hD, _, upd_same, ?_, fun j hj wj hwj => ?_⟩
      · have := length_putK kvs (Sum.inl wg) (.int ((i : Nat) : Int))
        omega
      · rw [valV_put]
        by_cases e : j = i
        · subst e
          rw [hwg] at hwj
          cases hwj
          rw [if_pos rfl]
        · have hne : ¬ (Sum.inl wj : Key) = Sum.inl wg := fun q => by
            injection q with q
            subst q
            have hn := YM.IsRow.nodup hRr
            obtain ⟨h1, h2⟩ := List.getElem?_eq_some_iff.mp hwj
            obtain ⟨h3, h4⟩ := List.getElem?_eq_some_iff.mp hwg
            exact e (by rw [← YM.idx_at hn h1, ← YM.idx_at hn h3, h2, h4])
          rw [if_neg hne]
          exact hkj j (by omega) wj hwj
    · rintro H2 ⟨s2, kvs, hkv, hkl, hkj⟩
      rw [lenVI] at hkj
      refine ⟨_, rfl, _, rfl, by omega, by omega, fun L hL => ?_⟩
      refine lc_range (lo := 0) (n := ((row.length : Nat) : Int).toNat) (fun i H' => Same H2 H' ∧ ∃ xs : List Int, H' L = some (.lst (xs.map V.int)) ∧ xs = (YM.trow row).take i) ⟨Same.new hL, [], upd_same, by simp⟩ (fun i H' hi ⟨s3, xs, hx, hxs⟩ => ?_) (fun H' ⟨s3, xs, hx, hxs⟩ => ?_)
      · have hi' : i < row.length := by omega
        refine ⟨rfl, tyes_go ?_⟩
        obtain ⟨p, hp, hpe⟩ := YM.at_of_mem hRr (w := (row.length : Int) - (i : Nat)) (by omega) (by omega)
        have hv := hkj p hp _ (List.getElem?_eq_getElem hp)
        rw [hpe] at hv
        have hg : DGet H' D (kV (Sum.inl ((row.length : Int) - (i : Nat)))) (some (.int ((p : Nat) : Int))) := by
          have := DGet.k (H := H') (a := D) (kvs := kvs) (k := Sum.inl ((row.length : Int) - (i : Nat))) (s3 _ _ hkv)
          rw [hv] at this
          exact this
        refine ⟨_, rfl, _, rfl, _, rfl, _, rfl, _, _, rfl, rfl, D, .int ((p : Nat) : Int), rfl, ?_, _, _, rfl, rfl, ?_⟩
        · show DGet H' D (.int (((row.length : Nat) : Int) - (0 + ((i : Nat) : Int)))) _
          rw [show ((row.length : Nat) : Int) - (0 + ((i : Nat) : Int)) = (row.length : Int) - (i : Nat) by omega]
          exact hg
        · refine ⟨_, hx, Nat.lt_of_le_of_lt (show (xs.map V.int).length ≤ 5 from ?_) (by decide), Same.put s3 hL, xs ++ [((row.length : Nat) : Int) - ((p : Nat) : Int)], ?_, ?_⟩
          · rw [lenVI, hxs, List.length_take]
            omega
          · rw [upd_same, List.map_append]
            rfl
          · have ht := YM.trow_at row hi'
            rw [← hpe, YM.lam_at hRr hp] at ht
            rw [take_succ_get ht, hxs]
      · rw [show ((row.length : Nat) : Int).toNat = row.length from Int.toNat_natCast _] at hxs
        rw [List.take_of_length_le (by rw [YM.trow_len]; exact Nat.le_refl _)] at hxs
        subst hxs
        exact k L H' ((s1.trans s2).trans s3) hx
/-! ### moves, turned round -/
def spTEnd (CY : Addr) : Sp := fun vs H Q _ => ∃ (v : V) (d : Int) (e : Addr) (e0 en : Int) (txt : Str) (Y : YM.Yard), vs = [v, .int d, .ref e, .int en] ∧ YardAt CY H v txt Y ∧ DevOk Y d ∧ H e = some (.lst [.int e0]) ∧ Q (.int (YM.tend Y d e0 en)) H
theorem c_turned_end (T : Txt K w mg CG CR CY CS dI dO dT dC) : C8.Cal P w K mg base 1 "turned_end" (spTEnd CY) [] := by
  refine cal_of T.d_turned_end b_turned_end sc_turned_end (fun vs H Q E h => ?_) (fun f cdv A outer s H vs Q E hr h => ?_)
  · obtain ⟨_, _, _, _, _, _, _, rfl, _⟩ := h
    rfl
  · obtain ⟨v, d, e, e0, en, txt, Y, rfl, hY, hd, he, k⟩ := h
    have nd := sc_turned_end.nd
    refine ⟨_, pss_cons (ps_if (pt_cmpR op_eq (pv 1) (C8.pe_gc rfl T.v_OUTSIDE) (nomark _)) (pss_one (ps_ret pe_int)) pss_nil)
      (pss_cons (ps_if (pt_cmpR op_eq (pe_ix ix_list (pe_fld (pv 0) rfl) (pv 1) (fun _ _ => rfl)) pe_str (nomark _)) (pss_one (ps_ret (pe_ix ix_list (pv 2) pe_int (fun _ _ => rfl)))) pss_nil)
      (pss_one (ps_ret (pv 3)))), ?_⟩
    refine ⟨_, rfl, rfl, _, rfl, ?_⟩
    unfold YM.tend at k
    rcases hd with hd | ⟨hd0, hd⟩
    · subst hd
      rw [if_pos rfl] at k
      rw [decide_eq_true rfl]
      exact iteT k
    · rw [if_neg (by omega)] at k
      rw [decide_eq_false (by intro q; injection q with q; omega)]
      refine iteF ?_
      obtain ⟨y, dx, lk, lb, ll, ls, lks, rfl, h1, h2, h3, h4, h5, h6, h7⟩ := id hY
      refine ⟨_, rfl, y, CY, dx, _, _, rfl, h1, T.c_Y, T.a_Y_kinds, rfl, _, rfl, lk, _, _, _, rfl, rfl, SqL.of h2, atI_of hd0 (getK hd), rfl, _, rfl, ?_⟩
      have eq : decide (kdV (Y.kind d.toNat) = V.str "q") = decide (Y.kind d.toNat = .q) := by
        cases Y.kind d.toNat <;> decide
      rw [eq]
      by_cases hq : Y.kind d.toNat = .q
      · rw [if_pos hq] at k
        rw [decide_eq_true hq]
        exact iteT ⟨_, rfl, e, _, 0, _, rfl, rfl, SqL.of he, rfl, k⟩
      · rw [if_neg hq] at k
        rw [decide_eq_false hq]
        exact iteF ⟨_, rfl, k⟩
def spTNums (NumsOf : Str → List Nat → Prop) : Sp := fun vs H Q _ => ∃ (txt : Str) (num : List Nat), vs = [.str txt] ∧ NumsOf txt num ∧ ∀ p H', Same H H' → H p = none → H' p = some (.lst (num.map fun n => V.int ((n : Nat) : Int))) → Q (.ref p) H'
def spTMoves (NumsOf : Str → List Nat → Prop) (K : PySem.W.Frag) (CY : Addr) : Sp := fun vs H Q _ => ∃ (v z : V) (txt : Str) (Y : YM.Yard) (num : List Nat) (ms : List YM.Mv), vs = [v, z] ∧ YardAt CY H v txt Y ∧ NumsOf txt num ∧ num.length = Y.kinds.length ∧ MvsIn K H z ms ∧ ms.length ≤ 4000 ∧
  (∀ m ∈ ms, DevOk Y m.1 ∧ DevOk Y m.2.2.1) ∧ ∀ D H' ys, Same H H' → H' D = some (.lst ys) → Paired (MvAt H') ys (YM.tmvs Y num ms) → Q (.ref D) H'
theorem nums_at {num : List Nat} {Y : YM.Yard} {d : Int} (hl : num.length = Y.kinds.length) (hd : DevOk Y d) : atI ((num.map fun n => V.int ((n : Nat) : Int)) ++ [.int (-1)]) d = some (.int (YM.nm num d)) := by
  unfold YM.nm
  rcases hd with hd | ⟨hd0, hd⟩
  · subst hd
    rw [if_pos rfl]
    exact atI_last _ _
  · rw [if_neg (by omega)]
    refine atI_of hd0 ?_
    rw [List.getElem?_append_left (by rw [List.length_map]; omega), List.getElem?_map, getD_get (d := 0) (by omega)]
    rfl
theorem c_turned_moves (T : Txt K w mg CG CR CY CS dI dO dT dC) {NumsOf : Str → List Nat → Prop} {L : Nat} (hT : C8.Cal P w K mg base L "turned_numbers" (spTNums NumsOf) []) (hL : 1 ≤ L) : C8.Cal P w K mg base (L + 1) "turned_moves" (spTMoves NumsOf K CY) [] := by
  refine cal_of T.d_turned_moves b_turned_moves sc_turned_moves (fun vs H Q E h => ?_) (fun f cdv A outer s H vs Q E hr h => ?_)
  · obtain ⟨_, _, _, _, _, _, rfl, _⟩ := h
    rfl
  · obtain ⟨v, z, txt, Y, num, ms, rfl, hY, hN, hnl, hM, hml, hdv, k⟩ := h
    have nd := sc_turned_moves.nd
    refine ⟨_, pss_cons (ps_set (i := 2) nd rfl (Or.inl rfl) (pe_op op_cat (C8.pe_c hT hr (Nat.le_refl _) rfl (pa_cons (pe_fld (pv 0) rfl) pa_nil)) (pe_lst (pa_cons (C8.pe_gc rfl T.v_OUTSIDE) pa_nil))))
      (pss_cons (ps_set (i := 3) nd rfl (Or.inl rfl) (pe_lst pa_nil))
      (pss_cons (ps_for PassesOwn.never rfl (pi_list (pe_revL (pv 1))) (pg_tup (by rfl) (pgs_cons (pg_name (i := 4) nd rfl (.inl rfl)) (pgs_cons (pg_name (i := 5) nd rfl (.inl rfl)) (pgs_cons (pg_name (i := 6) nd rfl (.inl rfl)) (pgs_cons (pg_name (i := 7) nd rfl (.inl rfl)) pgs_nil)))))
        (pss_cons (ps_set (i := 8) nd rfl (Or.inl rfl) (C8.pe_c (c_turned_end T) hr hL rfl (pa_cons (pv 0) (pa_cons (pv 6) (pa_cons (pe_lst (pa_cons pe_int pa_nil)) (pa_cons (pv 7) pa_nil))))))
        (pss_cons (ps_set (i := 9) nd rfl (Or.inl rfl) (C8.pe_c (c_turned_end T) hr hL rfl (pa_cons (pv 0) (pa_cons (pv 4) (pa_cons (pe_lst (pa_cons pe_int pa_nil)) (pa_cons (pv 5) pa_nil))))))
        (pss_one (ps_expr (pe_bm PySem.F.plainAttrs_list PySem.F.slot_list_append PySem.F.type_list_append mt_append (pv 3) (pa_cons (pe_tup (pa_cons (pe_ix ix_list (pv 2) (pv 6) (fun _ _ => rfl)) (pa_cons (pv 8) (pa_cons (pe_ix ix_list (pv 2) (pv 4) (fun _ _ => rfl)) (pa_cons (pv 9) pa_nil))))) pa_nil)))))))
      (pss_one (ps_ret (pv 3))))), ?_⟩
    obtain ⟨y, dx, lk, lb, ll, ls, lks, rfl, h1, h2, h3, h4, h5, h6, h7⟩ := id hY
    refine ⟨_, rfl, y, CY, dx, _, _, rfl, h1, T.c_Y, T.a_Y_text, rfl, txt, num, rfl, hN, fun pn H1 s1 pn0 hpn => ?_⟩
    refine ⟨by show 1 ≤ sizeLine; decide, fun po hpo => ?_⟩
    have npo : pn ≠ po := ne_of_none hpn hpo
    have := h7.most
    refine ⟨pn, po, _, _, rfl, rfl, (by rw [upd_ne npo]; exact hpn), upd_same, Nat.le_trans (show ((num.map fun n => V.int ((n : Nat) : Int)).length + 1) ≤ 4 by rw [List.length_map]; omega) (by decide), fun pc hpc => ?_⟩
    have s2 : Same H (upd (upd H1 po (.lst [.int (-1)])) pc (.lst ((num.map fun n => V.int ((n : Nat) : Int)) ++ [.int (-1)]))) := Same.add (Same.add s1 hpo) hpc
    have c2 : (upd (upd H1 po (.lst [.int (-1)])) pc (.lst ((num.map fun n => V.int ((n : Nat) : Int)) ++ [.int (-1)]))) pc = some (.lst ((num.map fun n => V.int ((n : Nat) : Int)) ++ [.int (-1)])) := upd_same
    generalize (upd (upd H1 po (.lst [.int (-1)])) pc (.lst ((num.map fun n => V.int ((n : Nat) : Int)) ++ [.int (-1)]))) = H2 at s2 c2 ⊢
    refine ⟨Nat.zero_le _, fun D hD => ?_⟩
    have nDc : D ≠ pc := (ne_of_none c2 hD).symm
    obtain ⟨ma, ys, rfl, hMa, hMp⟩ := id hM
    have s3 : Same H (upd H2 D (.lst [])) := Same.add s2 hD
    refine ⟨_, rfl, ma, ys, rfl, s3.seq hMa, fun pr hpr => ?_⟩
    have nDr : D ≠ pr := ne_of_none upd_same hpr
    have hrp : Paired (MvAt H) ys.reverse ms.reverse := Paired.rev hMp
    refine ⟨pr, rfl, ⟨_, SqL.of upd_same⟩, ?_⟩
    refine for_list (K := K) (a := pr) (xs := ys.reverse) (fun i σ H' => ∃ x4 x5 x6 x7 x8 x9, σ = [some (.ref y), some (.ref ma), some (.ref pc), some (.ref D), x4, x5, x6, x7, x8, x9] ∧ H' pr = some (.lst ys.reverse) ∧ H' pc = some (.lst ((num.map fun n => V.int ((n : Nat) : Int)) ++ [.int (-1)])) ∧ Acc MvAt H H' D ((ms.reverse.take i).map (YM.tmv Y num)))
      ⟨none, none, none, none, none, none, rfl, upd_same, ?_, Same.add s3 hpr, s2.free hD, [], ?_, .nil⟩ (fun i σ H' _ ⟨_, _, _, _, _, _, _, e, _, _⟩ => SqL.of e) ?_ ?_
    · rw [upd_ne (ne_of_none (show upd H2 D (.lst []) pc = some (.lst ((num.map fun n => V.int ((n : Nat) : Int)) ++ [.int (-1)])) by rw [upd_ne nDc.symm]; exact c2) hpr), upd_ne nDc.symm]
      exact c2
    · rw [upd_ne nDr, upd_same]
    · rintro i x σ H' hi ⟨x4, x5, x6, x7, x8, x9, rfl, er, ec, ac⟩
      obtain ⟨m, hm, t, rfl, ht⟩ := Paired.get hrp hi
      have hmem : m ∈ ms := List.mem_reverse.mp (List.mem_of_getElem? hm)
      obtain ⟨d1, d2⟩ := hdv m hmem
      refine ⟨t, _, rfl, SqT.of (ac.1 _ _ ht), rfl, _, _, rfl, _, _, rfl, _, _, rfl, _, _, rfl, rfl, ?_⟩
      refine ⟨_, rfl, _, rfl, by show 1 ≤ sizeLine; decide, fun e1 he1 => ?_⟩
      have ac1 := Acc.new (o := .lst [.int 0]) keepMv ac he1
      refine ⟨_, rfl, _, _, e1, 0, _, txt, Y, rfl, hY.same ac1.1, d2, upd_same, ?_⟩
      refine ⟨_, rfl, _, rfl, by show 1 ≤ sizeLine; decide, fun e2 he2 => ?_⟩
      have ac2 := Acc.new (o := .lst [.int 1]) keepMv ac1 he2
      have er2 : (upd (upd H' e1 (.lst [.int 0])) e2 (.lst [.int 1])) pr = some (.lst ys.reverse) := by
        have q : upd H' e1 (.lst [.int 0]) pr = some (.lst ys.reverse) := by rw [upd_ne (ne_of_none er he1)]; exact er
        rw [upd_ne (ne_of_none q he2)]; exact q
      have ec2 : (upd (upd H' e1 (.lst [.int 0])) e2 (.lst [.int 1])) pc = some (.lst ((num.map fun n => V.int ((n : Nat) : Int)) ++ [.int (-1)])) := by
        have q : upd H' e1 (.lst [.int 0]) pc = some (.lst ((num.map fun n => V.int ((n : Nat) : Int)) ++ [.int (-1)])) := by rw [upd_ne (ne_of_none ec he1)]; exact ec
        rw [upd_ne (ne_of_none q he2)]; exact q
      refine ⟨_, rfl, _, _, e2, 1, _, txt, Y, rfl, hY.same ac2.1, d1, upd_same, ?_⟩
      generalize (upd (upd H' e1 (.lst [.int 0])) e2 (.lst [.int 1])) = H3 at ac2 er2 ec2 ⊢
      obtain ⟨s4, D0, xs, hxs, hprd⟩ := id ac2
      refine ⟨_, rfl, .inl ⟨rfl, _, SqL.of hxs⟩, ?_⟩
      refine ⟨_, rfl, _, rfl, pc, _, _, _, rfl, rfl, SqL.of ec2, nums_at hnl d2, _, rfl, _, rfl, _, rfl, pc, _, _, _, rfl, rfl, SqL.of ec2, nums_at hnl d1, _, rfl, by show 4 ≤ sizeLine; decide, fun t2 ht2 => ?_⟩
      have nDt : D ≠ t2 := ne_of_none hxs ht2
      have hxs2 : upd H3 t2 (.tup [.int (YM.nm num m.2.2.1), .int (YM.tend Y m.2.2.1 0 m.2.2.2), .int (YM.nm num m.1), .int (YM.tend Y m.1 1 m.2.1)]) D = some (.lst xs) := by rw [upd_ne nDt]; exact hxs
      have hil := (List.getElem?_eq_some_iff.mp hm).1
      rw [List.length_reverse] at hil
      refine ⟨D, xs, _, rfl, rfl, hxs2, Nat.lt_of_le_of_lt (show xs.length ≤ 4000 from ?_) (by decide), ?_⟩
      · rw [Paired.length hprd, List.length_map, List.length_take]
        omega
      · refine ⟨_, _, _, _, _, _, rfl, ?_, ?_, ?_⟩
        · have q : upd H3 t2 (.tup [.int (YM.nm num m.2.2.1), .int (YM.tend Y m.2.2.1 0 m.2.2.2), .int (YM.nm num m.1), .int (YM.tend Y m.1 1 m.2.1)]) pr = some (.lst ys.reverse) := by rw [upd_ne (ne_of_none er2 ht2)]; exact er2
          rw [upd_ne nDr.symm]
          exact q
        · have q : upd H3 t2 (.tup [.int (YM.nm num m.2.2.1), .int (YM.tend Y m.2.2.1 0 m.2.2.2), .int (YM.nm num m.1), .int (YM.tend Y m.1 1 m.2.1)]) pc = some (.lst ((num.map fun n => V.int ((n : Nat) : Int)) ++ [.int (-1)])) := by rw [upd_ne (ne_of_none ec2 ht2)]; exact ec2
          rw [upd_ne nDc.symm]
          exact q
        · rw [take_succ_get hm, List.map_append]
          exact Acc.app keepMv (Acc.new keepMv ac2 ht2) hxs2 (v := .ref t2) (a := YM.tmv Y num m) ⟨t2, rfl, upd_same⟩
    · rintro σ H' ⟨x4, x5, x6, x7, x8, x9, rfl, er, ec, ac⟩
      have el : ms.reverse.take ys.reverse.length = ms.reverse := by rw [Paired.length hrp, List.take_length]
      rw [el, List.map_reverse] at ac
      obtain ⟨s4, D0, xs, hxs, hprd⟩ := ac
      exact ⟨_, rfl, k D H' xs s4 hxs hprd⟩
end
end YW
namespace YW
open PySem L2
/-! ### the text of a tree -/
def tx (t : YM.Tr) : Str := ⟨(YM.told t).toArray⟩
theorem strL {x y : Str} (h : x.cps.toList = y.cps.toList) : x = y := by
  obtain ⟨a⟩ := x
  obtain ⟨b⟩ := y
  rw [show a = b from Array.toList_inj.mp h]
theorem tx_len (t : YM.Tr) : (tx t).length = (YM.told t).length := rfl
theorem tx_list (t : YM.Tr) : (tx t).cps.toList = YM.told t := rfl
theorem strA (x y : Str) : (x ++ y).cps.toList = x.cps.toList ++ y.cps.toList := Array.toList_append
theorem one_eq {c : Nat} {b : Nat} {z : Str} (hz : z = ⟨#[b]⟩) : (⟨#[c]⟩ : Str) = z ↔ c = b := by
  subst hz
  constructor
  · intro h
    have h1 := congrArg (fun x : Str => x.cps.toList) h
    exact (List.cons.inj h1).1
  · rintro rfl
    rfl
theorem par_eq : (("(" : Str)) = ⟨#[40]⟩ := by decide +kernel
theorem bra_eq : (("[" : Str)) = ⟨#[91]⟩ := by decide +kernel
theorem spc_eq : ((" " : Str)) = ⟨#[32]⟩ := by decide +kernel
theorem emp_eq : (("" : Str)) = ⟨#[]⟩ := by decide +kernel
theorem rpar_eq : ((")" : Str)) = ⟨#[41]⟩ := by decide +kernel
theorem rbra_eq : (("]" : Str)) = ⟨#[93]⟩ := by decide +kernel
theorem kd_eq (k : YM.Kd) : kdS k = ⟨#[YM.kdC k]⟩ := by cases k <;> decide +kernel
theorem decV {c b : Nat} {z : Str} (hz : z = ⟨#[b]⟩) : decide (V.str ⟨#[c]⟩ = V.str z) = decide (c = b) := decide_eq_decide.mpr ⟨fun q => (one_eq hz).mp (by injection q), fun q => by rw [(one_eq hz).mpr q]⟩
theorem slc_of {l a b c : List Nat} {i j : Nat} (h : l = a ++ (b ++ c)) (hi : i = a.length) (hj : j = a.length + b.length) : YM.slc l i j = b := by
  subst h
  exact YM.slc_mid hi hj
theorem cut_slc {z : Str} {i j : Nat} (h : j ≤ z.length) : cutS z (some ((i : Nat) : Int)) (some ((j : Nat) : Int)) = ⟨(YM.slc z.cps.toList i j).toArray⟩ := by
  unfold cutS YM.slc
  rw [HT.sIx_nat, HT.sIx_nat, Nat.min_eq_left h]
  have hl : z.cps.toList.length = z.length := Array.length_toList
  by_cases hi : i ≤ z.length
  · rw [Nat.min_eq_left hi]
  · rw [Nat.min_eq_right (by omega), List.drop_of_length_le (by omega), List.drop_of_length_le (by omega), List.take_nil, List.take_nil]
theorem cut_from1 {c : Nat} {cs : List Nat} : cutS ⟨(c :: cs).toArray⟩ (some 1) none = ⟨cs.toArray⟩ := by
  unfold cutS
  have e : HT.sIx (Str.length ⟨(c :: cs).toArray⟩) 0 (some 1) = 1 := by
    have := HT.sIx_nat (Str.length ⟨(c :: cs).toArray⟩) 0 1
    rw [show ((1 : Nat) : Int) = 1 from rfl] at this
    rw [this]
    show min 1 (cs.length + 1) = 1
    omega
  rw [e, HT.sIx_none]
  show (⟨(cs.take (cs.length + 1 - 1)).toArray⟩ : Str) = _
  rw [List.take_of_length_le (by omega)]
def partsT : YM.Tr → List YM.Tr
  | .dev _ _ => []
  | .node _ l r => [l, r]
def TrOk (t : YM.Tr) : Prop := t.bok ∧ t.size ≤ 3
theorem TrOk.lft {sq : Bool} {l r : YM.Tr} (h : TrOk (.node sq l r)) : TrOk l := ⟨h.1.1, by have := h.2; have := YM.size_pos r; simp only [YM.Tr.size] at *; omega⟩
theorem TrOk.rgt {sq : Bool} {l r : YM.Tr} (h : TrOk (.node sq l r)) : TrOk r := ⟨h.1.2, by have := h.2; have := YM.size_pos l; simp only [YM.Tr.size] at *; omega⟩
theorem TrOk.turn {t : YM.Tr} (h : TrOk t) : TrOk (YM.turnT t) := ⟨YM.turnT_bok t h.1, by rw [YM.turnT_size]; exact h.2⟩
theorem TrOk.len {t : YM.Tr} (h : TrOk t) : (YM.told t).length ≤ 12 := by
  have := YM.told_len t
  have := h.2
  omega
theorem TrOk.line {t : YM.Tr} (h : TrOk t) : (tx t).length ≤ sizeLine := Nat.le_trans (show (YM.told t).length ≤ 12 from h.len) (by decide)
theorem told_cons (t : YM.Tr) : ∃ c cs, YM.told t = c :: cs := by cases t <;> exact ⟨_, _, rfl⟩
theorem tx_at0 {t : YM.Tr} {c : Nat} {cs : List Nat} (h : YM.told t = c :: cs) : atI (tx t).cps.toList 0 = some c := by
  rw [tx_list, h]
  exact atI_nat (j := 0) rfl
section
variable {P : Program} {w : World} {K : PySem.W.Frag} {mg : Str → Option Value} {base : Heap} {CG CR CY CS dI dO dT dC : Addr}
/-- one sign, looked up in CLOSING -/
theorem closing_at (T : Txt K w mg CG CR CY CS dI dO dT dC) (c : Nat) : ∃ r, PySem.W.nsIn K dC ⟨#[c]⟩ = some r ∧ r.isSome = decide (c = 40 ∨ c = 91) := by
  by_cases h1 : c = 40
  · subst h1
    obtain ⟨t, ht⟩ := T.k_par
    exact ⟨_, by rw [← par_eq]; exact ht, rfl⟩
  · by_cases h2 : c = 91
    · subst h2
      obtain ⟨t, ht⟩ := T.k_bra
      exact ⟨_, by rw [← bra_eq]; exact ht, rfl⟩
    · refine ⟨none, T.k_no _ (fun q => h1 ((one_eq par_eq).mp q)) (fun q => h2 ((one_eq bra_eq).mp q)), ?_⟩
      rw [decide_eq_false (by omega)]
      rfl
/-- the state of parts_of behind i signs -/
def PartInv (H : Hp) (D : Addr) (z : Str) (full : List Nat) (fin : YM.PSt) (i : Nat) (σ : L2.St) (H' : Hp) : Prop :=
  ∃ (d : Int) (st : Nat) (ps : List (List Nat)) (x4 x5 : Option V), σ = [some (.str z), some (.ref D), some (.int d), some (.int ((st : Nat) : Int)), x4, x5] ∧ Same H H' ∧ H D = none ∧
    H' D = some (.lst (ps.map fun p => V.str ⟨p.toArray⟩)) ∧ ps.length ≤ i ∧ YM.pfold full i (full.drop i) (d, st, ps) = fin
def spParts : Sp := fun vs H Q _ => ∃ t, vs = [.str (tx t)] ∧ TrOk t ∧ ∀ p H', Same H H' → H p = none → H' p = some (.lst ((partsT t).map fun t => .str (tx t))) → Q (.ref p) H'
theorem rb_list : (")]" : Str).cps.toList = [41, 93] := by decide +kernel
theorem c_parts_of (T : Txt K w mg CG CR CY CS dI dO dT dC) : C8.Cal P w K mg base 1 "parts_of" spParts [] := by
  refine cal_of T.d_parts_of b_parts_of sc_parts_of (fun vs H Q E h => ?_) (fun f cdv A outer s H vs Q E hr h => ?_)
  · obtain ⟨_, rfl, _⟩ := h
    rfl
  · obtain ⟨t, rfl, ok, k⟩ := h
    have nd := sc_parts_of.nd
    obtain ⟨gC, es, m, DC⟩ := T.t_CLOSING
    refine ⟨_, pss_cons (ps_if (pt_cmpR (op_notInTab DC) (pe_ix ix_str (pv 0) pe_int (fun _ _ => rfl)) (C8.pe_gc rfl (glob_ref gC)) (by rfl)) (pss_one (ps_ret (pe_lst pa_nil))) pss_nil)
      (pss_cons (ps_set (i := 1) nd rfl (Or.inl rfl) (pe_lst pa_nil))
      (pss_cons (ps_set (i := 2) nd rfl (Or.inl rfl) pe_int)
      (pss_cons (ps_set (i := 3) nd rfl (Or.inl rfl) pe_int)
      (pss_cons (ps_for PassesOwn.never rfl (pi_enumS (by rfl) T.z_enumerate (pa_cons (pv 0) pa_nil)) (pg_tup (by rfl) (pgs_cons (pg_name (i := 4) nd rfl (.inl rfl)) (pgs_cons (pg_name (i := 5) nd rfl (.inl rfl)) pgs_nil)))
        (C8.pss_cut (ps_if (pt_cmpR (op_inTab DC) (pv 5) (C8.pe_gc rfl (glob_ref gC)) (by rfl)) (pss_one (ps_aug (i := 2) nd rfl (.inl rfl) pe_int ip_add))
            (pss_one (ps_if (pt_cmpR op_in_sign (pv 5) pe_str (by rfl)) (pss_one (ps_aug (i := 2) nd rfl (.inl rfl) pe_int ip_sub)) pss_nil)))
        (pss_one (ps_if (PW.pt (pw_or (PW.pt (pw_and (pt_cmpR op_eq (pv 5) pe_str (nomark _)) (pw_and1 (pt_cmpR op_eq (pv 2) pe_int (nomark _))))) (pw_or1 (pt_cmpR op_eq (pv 2) pe_int (nomark _)))))
          (pss_cons (ps_expr (pe_bm PySem.F.plainAttrs_list PySem.F.slot_list_append PySem.F.type_list_append mt_append (pv 1) (pa_cons (pe_slice sl_str (pv 0) (po_some (pv 3)) (po_some (pv 4))) pa_nil)))
          (pss_one (ps_set (i := 3) nd rfl (Or.inl rfl) (pe_op op_add (pv 4) pe_int)))) pss_nil))))
      (pss_one (ps_ret (pv 1))))))), ?_⟩
    obtain ⟨c0, cs0, h0⟩ := told_cons t
    obtain ⟨r0, hr0, hs0⟩ := closing_at T c0
    refine ⟨_, rfl, _, 0, c0, rfl, rfl, ok.line, tx_at0 h0, _, r0, rfl, rfl, hr0, _, rfl, ?_⟩
    rw [hs0]
    cases t with
    | dev kd b =>
      have e : c0 = YM.kdC kd := by injection h0 with h _; exact h.symm
      rw [decide_eq_false (by rw [e]; cases kd <;> decide)]
      exact iteT ⟨Nat.zero_le _, fun p hp => k p _ (Same.new hp) hp upd_same⟩
    | node sq l r =>
      have e : c0 = YM.opC sq := by injection h0 with h _; exact h.symm
      rw [decide_eq_true (by rw [e]; cases sq <;> decide)]
      refine iteF ?_
      refine ⟨Nat.zero_le _, fun D hD => ?_⟩
      obtain ⟨dF, sF, hF⟩ := YM.parts_node (sq := sq) ok.lft.1 ok.rgt.1
      refine ⟨_, rfl, _, rfl, ?_⟩
      refine for_enumS (x := tx (.node sq l r)) (PartInv H D (tx (.node sq l r)) (YM.told (.node sq l r)) (dF, sF, [YM.told l, YM.told r]))
        ⟨0, 1, [], none, none, rfl, Same.new hD, hD, upd_same, Nat.le_refl _, hF⟩ ?_ ?_
      · rintro i c Tt σ H' hc ⟨d, st, ps, x4, x5, rfl, s1, _, hps, hpl, hf⟩ hTt
        have hcl : (YM.told (.node sq l r))[i]? = some c := by
          rw [← tx_list, Array.getElem?_toList]
          exact hc
        obtain ⟨hi, hci⟩ := List.getElem?_eq_some_iff.mp hcl
        rw [List.drop_eq_getElem_cons hi, hci] at hf
        have s2 : Same H (upd H' Tt (.tup [.int ((i : Nat) : Int), .str ⟨#[c]⟩])) := Same.add s1 hTt
        have hps2 : (upd H' Tt (.tup [.int ((i : Nat) : Int), .str ⟨#[c]⟩])) D = some (.lst (ps.map fun p => V.str ⟨p.toArray⟩)) := by rw [upd_ne (ne_of_none hps hTt)]; exact hps
        refine ⟨Tt, _, rfl, SqT.of upd_same, rfl, _, _, rfl, _, _, rfl, rfl, ?_⟩
        generalize (upd H' Tt (.tup [.int ((i : Nat) : Int), .str ⟨#[c]⟩])) = H2 at s2 hps2 ⊢
        -- depth
        refine ⟨fun σ' H' => σ' = [some (.str (tx (.node sq l r))), some (.ref D), some (.int (YM.pdep c d)), some (.int ((st : Nat) : Int)), some (.int ((i : Nat) : Int)), some (.str ⟨#[c]⟩)] ∧ H' = H2, ?_, ?_⟩
        · obtain ⟨r1, hr1, hs1⟩ := closing_at T c
          refine ⟨_, rfl, _, r1, rfl, rfl, hr1, _, rfl, ?_⟩
          rw [hs1]
          unfold YM.pdep
          by_cases hop : c = 40 ∨ c = 91
          · rw [decide_eq_true hop, if_pos hop]
            exact iteT ⟨_, rfl, _, _, rfl, rfl, rfl, rfl⟩
          · rw [decide_eq_false hop, if_neg hop]
            refine iteF ?_
            refine ⟨_, rfl, c, _, rfl, rfl, _, rfl, ?_⟩
            rw [rb_list]
            by_cases hcl : c = 41 ∨ c = 93
            · rw [decide_eq_true (by simpa using hcl), if_pos hcl]
              exact iteT ⟨_, rfl, _, _, rfl, rfl, rfl, rfl⟩
            · rw [decide_eq_false (by simpa using hcl), if_neg hcl]
              exact iteF ⟨rfl, rfl⟩
        · rintro σ' H' ⟨rfl, rfl⟩
          rw [show YM.pfold (YM.told (.node sq l r)) i (c :: (YM.told (.node sq l r)).drop (i + 1)) (d, st, ps) = YM.pfold (YM.told (.node sq l r)) (i + 1) ((YM.told (.node sq l r)).drop (i + 1)) (YM.pstep (YM.told (.node sq l r)) i c (d, st, ps)) from rfl] at hf
          have yes : ((c = 32 ∧ YM.pdep c d = 1) ∨ YM.pdep c d = 0) → PartInv H D (tx (.node sq l r)) (YM.told (.node sq l r)) (dF, sF, [YM.told l, YM.told r]) (i + 1) [some (.str (tx (.node sq l r))), some (.ref D), some (.int (YM.pdep c d)), some (.int (((i : Nat) : Int) + 1)), some (.int ((i : Nat) : Int)), some (.str ⟨#[c]⟩)]
              (upd H' D (.lst ((ps.map fun p => V.str ⟨p.toArray⟩) ++ [.str (cutS (tx (.node sq l r)) (some ((st : Nat) : Int)) (some ((i : Nat) : Int)))]))) := fun hy => by
            refine ⟨YM.pdep c d, i + 1, ps ++ [YM.slc (YM.told (.node sq l r)) st i], some (.int ((i : Nat) : Int)), some (.str ⟨#[c]⟩), rfl, Same.put s2 hD, hD, ?_, ?_, ?_⟩
            · rw [upd_same, List.map_append, cut_slc (show i ≤ (YM.told (.node sq l r)).length by omega)]
              rfl
            · rw [List.length_append, List.length_singleton]
              omega
            · rw [YM.pstep_yes hy] at hf
              exact hf
          have no : ¬ ((c = 32 ∧ YM.pdep c d = 1) ∨ YM.pdep c d = 0) → PartInv H D (tx (.node sq l r)) (YM.told (.node sq l r)) (dF, sF, [YM.told l, YM.told r]) (i + 1) [some (.str (tx (.node sq l r))), some (.ref D), some (.int (YM.pdep c d)), some (.int ((st : Nat) : Int)), some (.int ((i : Nat) : Int)), some (.str ⟨#[c]⟩)] H' := fun hn => by
            rw [YM.pstep_no hn] at hf
            exact ⟨_, _, _, _, _, rfl, s2, hD, hps2, by omega, hf⟩
          have hlen : (ps.map fun p => V.str ⟨p.toArray⟩).length < sizeLine := by
            rw [List.length_map]
            have := ok.len
            exact Nat.lt_of_le_of_lt (show ps.length ≤ 12 by omega) (by decide)
          refine ⟨_, rfl, rfl, _, rfl, ?_⟩
          rw [decV spc_eq]
          have ei : ∀ z : Int, decide (V.int (YM.pdep c d) = V.int z) = decide (YM.pdep c d = z) := fun z => decide_eq_decide.mpr ⟨fun q => by injection q, fun q => by rw [q]⟩
          by_cases h32 : c = 32
          · rw [decide_eq_true h32]
            refine iteT ?_
            refine ⟨_, rfl, rfl, _, rfl, ?_⟩
            rw [ei 1]
            by_cases h1 : YM.pdep c d = 1
            · rw [decide_eq_true h1]
              refine iteT (iteT ?_)
              refine ⟨_, rfl, .inl ⟨rfl, _, SqL.of hps2⟩, _, rfl, _, rfl, _, rfl, _, rfl, _, rfl, _, rfl, ok.line, D, _, _, rfl, rfl, hps2, hlen, ?_⟩
              exact ⟨_, rfl, _, _, rfl, rfl, yes (.inl ⟨h32, h1⟩)⟩
            · rw [decide_eq_false h1]
              refine iteF ?_
              refine ⟨_, rfl, rfl, _, rfl, ?_⟩
              rw [ei 0]
              by_cases hz : YM.pdep c d = 0
              · rw [decide_eq_true hz]
                refine iteT ?_
                refine ⟨_, rfl, .inl ⟨rfl, _, SqL.of hps2⟩, _, rfl, _, rfl, _, rfl, _, rfl, _, rfl, _, rfl, ok.line, D, _, _, rfl, rfl, hps2, hlen, ?_⟩
                exact ⟨_, rfl, _, _, rfl, rfl, yes (.inr hz)⟩
              · rw [decide_eq_false hz]
                exact iteF (no (fun q => q.elim (fun q => h1 q.2) hz))
          · rw [decide_eq_false h32]
            refine iteF ?_
            refine ⟨_, rfl, rfl, _, rfl, ?_⟩
            rw [ei 0]
            by_cases hz : YM.pdep c d = 0
            · rw [decide_eq_true hz]
              refine iteT ?_
              refine ⟨_, rfl, .inl ⟨rfl, _, SqL.of hps2⟩, _, rfl, _, rfl, _, rfl, _, rfl, _, rfl, _, rfl, ok.line, D, _, _, rfl, rfl, hps2, hlen, ?_⟩
              exact ⟨_, rfl, _, _, rfl, rfl, yes (.inr hz)⟩
            · rw [decide_eq_false hz]
              exact iteF (no (fun q => q.elim (fun q => h32 q.1) hz))
      · rintro σ H' ⟨d, st, ps, x4, x5, rfl, s1, _, hps, hpl, hf⟩
        rw [List.drop_of_length_le (show (YM.told (.node sq l r)).length ≤ (tx (.node sq l r)).cps.size from Nat.le_refl _)] at hf
        have hf' : (d, st, ps) = (dF, sF, [YM.told l, YM.told r]) := hf
        have e : ps = [YM.told l, YM.told r] := by injection hf' with _ q; injection q
        subst e
        exact ⟨_, rfl, k D H' s1 hD hps⟩
end
end YW
namespace YW
open PySem L2
/-- the inner loop of a comprehension with two for, over a list -/
theorem lci_list {K : PySem.W.Frag} {a : Addr} {xs : List V} {g : TG} {tt : TT} {te : TE} {vs : List Nat} {σ : L2.St} {H1 : Hp} {D : Addr} {Qd : Hp → Prop} (Pv : Nat → Hp → Prop) (h0 : Pv 0 H1) (hl : ∀ i H, i ≤ xs.length → Pv i H → SqL K H a xs)
    (hs : ∀ i x H, xs[i]? = some x → Pv i H → g x (wipe σ vs) H fun σ2 H2 => wipe σ2 vs = wipe σ vs ∧ tt σ2 H2 fun b H3 =>
      if b = true then te σ2 H3 fun y H4 => ∃ acc, H4 D = some (.lst acc) ∧ acc.length < sizeLine ∧ Pv (i + 1) (upd H4 D (.lst (acc ++ [y]))) else Pv (i + 1) H3) (hd : ∀ H, Pv xs.length H → Qd H) :
    ∃ W : Nat → Nat → Hp → Prop, (∃ m, W 0 m H1) ∧ ∀ i m H, W i m H →
      ((Itl K a).stop i H ∧ Qd H) ∨ ((Itl K a).go i H ∧ ∃ Nx : Hp → Prop, (∀ H', Nx H' → ∃ m', m' < m ∧ W (i + 1) m' H') ∧ ∀ x H', (Itl K a).yld i H x H' → g x (wipe σ vs) H' fun σ2 H2 => wipe σ2 vs = wipe σ vs ∧ tt σ2 H2 fun b H3 =>
        if b = true then te σ2 H3 fun y H4 => ∃ acc, H4 D = some (.lst acc) ∧ acc.length < sizeLine ∧ Nx (upd H4 D (.lst (acc ++ [y]))) else Nx H3) := by
  refine ⟨fun i m H => m = xs.length - i ∧ i ≤ xs.length ∧ Pv i H, ⟨xs.length, by simp, Nat.zero_le _, h0⟩, ?_⟩
  rintro i m H ⟨rfl, hi, p⟩
  have q := hl i H hi p
  by_cases hlt : i < xs.length
  · refine .inr ⟨⟨xs, xs[i], q, by simp [hlt]⟩, Pv (i + 1), fun H' p' => ⟨xs.length - (i + 1), by omega, rfl, hlt, p'⟩, fun x H' y => ?_⟩
    obtain ⟨e, y⟩ := y
    subst e
    exact hs i x _ (y xs q) p
  · have e : i = xs.length := by omega
    subst e
    exact .inl ⟨⟨xs, q, Nat.le_refl _⟩, hd H p⟩
theorem lc2_list {K : PySem.W.Frag} {a : Addr} {xs : List V} {g g1 : TG} {tt tt1 : TT} {wi1 : TI} {te : TE} {vs vs1 : List Nat} {σ : L2.St} {H1 : Hp} {D : Addr} {Qd : Hp → Prop} (Pv : Nat → Hp → Prop) (h0 : Pv 0 (upd H1 D (.lst []))) (hl : ∀ i H, i ≤ xs.length → Pv i H → SqL K H a xs)
    (hs : ∀ i x H, xs[i]? = some x → Pv i H → g x (wipe σ vs) H fun σ2 H2 => wipe σ2 vs = wipe σ vs ∧ tt σ2 H2 fun b H3 =>
      if b = true then wi1 σ2 H3 fun J1 H4 => ∃ W1 : Nat → Nat → Hp → Prop, (∃ m, W1 0 m H4) ∧ ∀ j k H, W1 j k H →
        (J1.stop j H ∧ Pv (i + 1) H) ∨ (J1.go j H ∧ ∃ Nx1 : Hp → Prop, (∀ H', Nx1 H' → ∃ k', k' < k ∧ W1 (j + 1) k' H') ∧ ∀ x H', J1.yld j H x H' → g1 x (wipe σ2 vs1) H' fun σ3 H5 => wipe σ3 vs1 = wipe σ2 vs1 ∧ tt1 σ3 H5 fun b H6 =>
          if b = true then te σ3 H6 fun y H7 => ∃ acc, H7 D = some (.lst acc) ∧ acc.length < sizeLine ∧ Nx1 (upd H7 D (.lst (acc ++ [y]))) else Nx1 H6)
      else Pv (i + 1) H3) (hd : ∀ H, Pv xs.length H → Qd H) :
    ∃ W : Nat → Nat → Hp → Prop, (∃ m, W 0 m (upd H1 D (.lst []))) ∧ ∀ i m H, W i m H →
      ((Itl K a).stop i H ∧ Qd H) ∨ ((Itl K a).go i H ∧ ∃ Nx : Hp → Prop, (∀ H', Nx H' → ∃ m', m' < m ∧ W (i + 1) m' H') ∧ ∀ x H', (Itl K a).yld i H x H' → g x (wipe σ vs) H' fun σ2 H2 => wipe σ2 vs = wipe σ vs ∧ tt σ2 H2 fun b H3 =>
        if b = true then wi1 σ2 H3 fun J1 H4 => ∃ W1 : Nat → Nat → Hp → Prop, (∃ m, W1 0 m H4) ∧ ∀ j k H, W1 j k H →
          (J1.stop j H ∧ Nx H) ∨ (J1.go j H ∧ ∃ Nx1 : Hp → Prop, (∀ H', Nx1 H' → ∃ k', k' < k ∧ W1 (j + 1) k' H') ∧ ∀ x H', J1.yld j H x H' → g1 x (wipe σ2 vs1) H' fun σ3 H5 => wipe σ3 vs1 = wipe σ2 vs1 ∧ tt1 σ3 H5 fun b H6 =>
            if b = true then te σ3 H6 fun y H7 => ∃ acc, H7 D = some (.lst acc) ∧ acc.length < sizeLine ∧ Nx1 (upd H7 D (.lst (acc ++ [y]))) else Nx1 H6)
        else Nx H3) := by
  refine ⟨fun i m H => m = xs.length - i ∧ i ≤ xs.length ∧ Pv i H, ⟨xs.length, by simp, Nat.zero_le _, h0⟩, ?_⟩
  rintro i m H ⟨rfl, hi, p⟩
  have q := hl i H hi p
  by_cases hlt : i < xs.length
  · refine .inr ⟨⟨xs, xs[i], q, by simp [hlt]⟩, Pv (i + 1), fun H' p' => ⟨xs.length - (i + 1), by omega, rfl, hlt, p'⟩, fun x H' y => ?_⟩
    obtain ⟨e, y⟩ := y
    subst e
    exact hs i x _ (y xs q) p
  · have e : i = xs.length := by omega
    subst e
    exact .inl ⟨⟨xs, q, Nat.le_refl _⟩, hd H p⟩
theorem kdTurn (k : YM.Kd) : kdS k.turn = ⟨#[YM.kdC k.turn]⟩ := kd_eq _
section
variable {P : Program} {w : World} {K : PySem.W.Frag} {mg : Str → Option Value} {base : Heap} {CG CR CY CS dI dO dT dC : Addr}
theorem tab_turned (T : Txt K w mg CG CR CY CS dI dO dT dC) (k : YM.Kd) : TabStr K dT (kdS k) (kdS k.turn) := by
  cases k
  · exact T.u_s
  · exact T.u_q
  · exact T.u_d
  · exact T.u_i
  · exact T.u_o
def spTPart (n : Nat) : Sp := fun vs H Q _ => ∃ t, vs = [.str (tx t)] ∧ TrOk t ∧ t.hgt < n ∧ ∀ H', Same H H' → Q (.str (tx (YM.turnT t))) H'
theorem node_text (sq : Bool) (a b : YM.Tr) : (⟨#[YM.opC sq]⟩ : Str) ++ (tx a ++ " " ++ tx b) ++ ⟨#[YM.clC sq]⟩ = tx (.node sq a b) := by
  refine strL ?_
  rw [strA, strA, strA, strA, spc_eq]
  show [YM.opC sq] ++ (YM.told a ++ [32] ++ YM.told b) ++ [YM.clC sq] = YM.opC sq :: (YM.told a ++ 32 :: (YM.told b ++ [YM.clC sq]))
  simp
theorem join2 (x y : Str) : Txt.join " " [x, y] = x ++ " " ++ y := by
  rw [TL.join_eq]
  rfl
theorem tx_last {sq : Bool} {l r : YM.Tr} : atI (tx (.node sq l r)).cps.toList (-1) = some (YM.clC sq) := by
  rw [tx_list, show YM.told (.node sq l r) = (YM.opC sq :: (YM.told l ++ 32 :: YM.told r)) ++ [YM.clC sq] by simp [YM.told]]
  exact atI_last _ _
theorem part_ok {t u : YM.Tr} {n i : Nat} (ok : TrOk t) (hh : t.hgt < n + 1) (hu : (partsT t)[i]? = some u) : TrOk u ∧ u.hgt < n ∧ i < 2 := by
  cases t with
  | dev _ _ => simp [partsT] at hu
  | node sq l r =>
    have hl2 : i < 2 := (List.getElem?_eq_some_iff.mp hu).1
    have hm := List.mem_of_getElem? hu
    simp only [partsT, List.mem_cons, List.not_mem_nil, or_false] at hm
    simp only [YM.Tr.hgt] at hh
    rcases hm with rfl | rfl
    · exact ⟨ok.lft, by omega, hl2⟩
    · exact ⟨ok.rgt, by omega, hl2⟩
theorem c_turned_part (T : Txt K w mg CG CR CY CS dI dO dT dC) : ∀ n, C8.Cal P w K mg base (n + 1) "turned_part" (spTPart n) []
  | 0 => by
    refine cal_of T.d_turned_part b_turned_part sc_turned_part (fun vs H Q E h => ?_) (fun f cdv A outer s H vs Q E hr h => ?_)
    · obtain ⟨_, rfl, _⟩ := h
      rfl
    · obtain ⟨_, _, _, h, _⟩ := h
      exact absurd h (Nat.not_lt_zero _)
  | n + 1 => by
    have ih := c_turned_part T n
    refine cal_of T.d_turned_part b_turned_part sc_turned_part (fun vs H Q E h => ?_) (fun f cdv A outer s H vs Q E hr h => ?_)
    · obtain ⟨_, rfl, _⟩ := h
      rfl
    · obtain ⟨t, rfl, ok, hh, k⟩ := h
      have nd := sc_turned_part.nd
      obtain ⟨gT, es, m, DT⟩ := T.t_TURNED
      refine ⟨_, pss_cons (ps_setLc (i := 1) (own := [("part", 2)]) (g := gName 2) (tt := tYes) rfl nd rfl rfl (sw_true rfl rfl rfl (by decide +kernel)) (pi_list (C8.pe_c (c_parts_of T) hr (by omega) rfl (pa_cons (pv 0) pa_nil)))
          (blkOk_by (own := [("part", 2)]) (N := n_turned_part) (sc := C8.fnScope s_turned_part) (by decide +kernel)) (fun _ _ _ _ _ => pg_name (i := 2) nd rfl (Or.inl rfl)) (fun _ _ _ _ _ => pts_nil) (fun _ _ _ _ _ => C8.pe_c ih hr (Nat.le_refl _) rfl (pa_cons (pv 2) pa_nil)))
        (pss_cons (ps_if (pt_not (pt_truth (pv 1) (by intro _; rfl))) (pss_one (ps_ret (pe_op op_add_str (pe_ix (ix_tab DT) (C8.pe_gc rfl (glob_ref gT)) (pe_ix ix_str (pv 0) pe_int (fun _ _ => rfl)) (fun _ _ => rfl)) (pe_slice sl_str (pv 0) (po_some pe_int) po_none)))) pss_nil)
        (C8.pss_cut (ps_if (pt_cmpR op_eq (pe_ix ix_str (pv 0) pe_int (fun _ _ => rfl)) pe_str (nomark _)) (pss_one (ps_set (i := 1) nd rfl (Or.inl rfl) (pe_revL (pv 1)))) pss_nil)
        (pss_one (ps_ret (pe_op op_add_str (pe_op op_add_str (pe_ix ix_str (pv 0) pe_int (fun _ _ => rfl)) (pe_join pe_str (pv 1))) (pe_ix ix_str (pv 0) (pe_un un_neg pe_int) (fun _ _ => rfl))))))), ?_⟩
      refine ⟨_, rfl, t, rfl, ok, fun pp H1 s1 _ hpp => ⟨pp, rfl, ⟨_, SqL.of hpp⟩, fun D hD => ?_⟩⟩
      have nDp : pp ≠ D := ne_of_none hpp hD
      refine lc_list (K := K) (a := pp) (xs := (partsT t).map fun t => V.str (tx t)) (fun i H' => Same H H' ∧ H D = none ∧ H' pp = some (.lst ((partsT t).map fun t => V.str (tx t))) ∧ H' D = some (.lst (((partsT t).take i).map fun t => V.str (tx (YM.turnT t)))))
        ⟨Same.add s1 hD, s1.free hD, (by rw [upd_ne nDp]; exact hpp), upd_same⟩ (fun i H' _ ⟨_, _, e, _⟩ => SqL.of e) ?_ ?_
      · rintro i x H2 hi ⟨s2, hD0, hp2, hd2⟩
        rw [List.getElem?_map] at hi
        obtain ⟨u, hu, rfl⟩ := Option.map_eq_some_iff.mp hi
        refine ⟨rfl, tyes_go ?_⟩
        have hu2 := part_ok ok hh hu
        refine ⟨_, rfl, u, rfl, hu2.1, hu2.2.1, fun H3 s3 => ?_⟩
        refine ⟨_, s3 _ _ hd2, ?_, Same.put (s2.trans s3) hD0, hD0, ?_, ?_⟩
        · rw [List.length_map, List.length_take]
          exact Nat.lt_of_le_of_lt (show min i _ ≤ 2 by omega) (by decide)
        · rw [upd_ne nDp]
          exact s3 _ _ hp2
        · rw [upd_same, take_succ_get hu, List.map_append]
          rfl
      · rintro H2 ⟨s2, hD0, hp2, hd2⟩
        rw [List.length_map, List.take_length] at hd2
        refine ⟨_, rfl, _, .inl ⟨_, SqL.of hd2, rfl⟩, ?_⟩
        cases t with
        | dev kd b =>
          refine iteT ?_
          obtain ⟨tk, htk⟩ := tab_turned T kd
          rw [kd_eq] at htk
          refine ⟨_, rfl, _, 0, YM.kdC kd, rfl, rfl, ok.line, tx_at0 (t := .dev kd b) (cs := YM.dgC b) rfl, ⟨#[YM.kdC kd]⟩, _, .str (kdS kd.turn), rfl, rfl, htk, ⟨_, rfl⟩, ?_⟩
          refine ⟨_, rfl, 1, rfl, _, rfl, ok.line, ?_⟩
          rw [show tx (.dev kd b) = ⟨(YM.kdC kd :: YM.dgC b).toArray⟩ from rfl, cut_from1]
          refine ⟨_, _, rfl, rfl, ?_, ?_⟩
          · rw [kd_eq]
            have h1 : (YM.dgC b).length ≤ 1 := by unfold YM.dgC; split <;> simp
            exact Nat.le_trans (show 1 + (YM.dgC b).length ≤ 2 by omega) (by decide)
          · have e : kdS kd.turn ++ ⟨(YM.dgC b).toArray⟩ = tx (YM.turnT (.dev kd b)) := strL (by rw [strA, kd_eq]; rfl)
            rw [e]
            exact k _ s2
        | node sq l r =>
          refine iteF ?_
          have hlr : YM.told (.node sq l r) = YM.opC sq :: (YM.told l ++ 32 :: (YM.told r ++ [YM.clC sq])) := rfl
          refine ⟨fun σ' H' => ∃ (pd : Addr) (a b : YM.Tr), σ' = [some (.str (tx (.node sq l r))), some (.ref pd), none] ∧ Same H H' ∧ TrOk a ∧ TrOk b ∧ a.size + b.size ≤ 3 ∧ H' pd = some (.lst [.str (tx a), .str (tx b)]) ∧ YM.turnT (.node sq l r) = .node sq a b, ?_, ?_⟩
          rotate_left
          · rintro σ' H' ⟨pd, a, b, rfl, s3, oa, ob, hsz, hpd, et⟩
            have la : (tx a).length ≤ 12 := oa.len
            have lb : (tx b).length ≤ 12 := ob.len
            refine ⟨_, rfl, _, 0, YM.opC sq, rfl, rfl, ok.line, tx_at0 hlr, ?_⟩
            refine ⟨⟨_, rfl⟩, _, rfl, " ", pd, [tx a, tx b], rfl, rfl, .inl (SqL.of hpd), ?_, ?_⟩
            · exact Nat.le_trans (show (tx a).length + ((tx b).length + 0) + 2 * (" " : Str).length ≤ 30 by rw [spc_eq]; show (tx a).length + ((tx b).length + 0) + 2 * 1 ≤ 30; omega) (by decide)
            rw [join2]
            have e2 : (tx a ++ " " ++ tx b).length = (tx a).length + 1 + (tx b).length := by
              rw [spc_eq]
              show ((tx a).cps ++ #[32] ++ (tx b).cps).size = _
              rw [Array.size_append, Array.size_append]
              rfl
            refine ⟨_, _, rfl, rfl, ?_, ?_⟩
            · rw [e2]
              exact Nat.le_trans (show 1 + ((tx a).length + 1 + (tx b).length) ≤ 30 by omega) (by decide)
            refine ⟨_, rfl, 1, rfl, _, -1, YM.clC sq, rfl, rfl, ok.line, tx_last, ?_⟩
            refine ⟨_, _, rfl, rfl, ?_, ?_⟩
            · refine Nat.le_trans (show ((⟨#[YM.opC sq]⟩ : Str) ++ (tx a ++ " " ++ tx b)).length + 1 ≤ 30 from ?_) (by decide)
              have : ((⟨#[YM.opC sq]⟩ : Str) ++ (tx a ++ " " ++ tx b)).length = 1 + (tx a ++ " " ++ tx b).length := by
                show (#[YM.opC sq] ++ (tx a ++ " " ++ tx b).cps).size = _
                rw [Array.size_append]
                rfl
              omega
            · rw [node_text, ← et]
              exact k _ s3
          refine ⟨_, rfl, _, 0, YM.opC sq, rfl, rfl, ok.line, tx_at0 hlr, rfl, _, rfl, ?_⟩
          rw [decV par_eq]
          by_cases hq : sq = false
          · subst hq
            rw [decide_eq_true (show YM.opC false = 40 from rfl)]
            refine iteT ?_
            refine ⟨_, rfl, D, _, rfl, SqL.of hd2, fun pd hpd => ?_⟩
            exact ⟨pd, YM.turnT r, YM.turnT l, rfl, Same.add s2 hpd, ok.rgt.turn, ok.lft.turn, by simp only [YM.turnT_size]; have := ok.2; simp only [YM.Tr.size] at this; omega, upd_same, rfl⟩
          · have hq' : sq = true := by cases sq <;> simp at hq ⊢
            subst hq'
            rw [decide_eq_false (by decide)]
            refine iteF ?_
            exact ⟨D, YM.turnT l, YM.turnT r, rfl, s2, ok.lft.turn, ok.rgt.turn, by simp only [YM.turnT_size]; have := ok.2; simp only [YM.Tr.size] at this; omega, hd2, rfl⟩
def vN (l : List Nat) : List V := l.map fun n => V.int ((n : Nat) : Int)
theorem vN_app (a b : List Nat) : vN (a ++ b) = vN a ++ vN b := List.map_append
theorem vN_len (a : List Nat) : (vN a).length = a.length := List.length_map ..
def spTOrd (n : Nat) : Sp := fun vs H Q _ => ∃ (t : YM.Tr) (f : Nat), vs = [.str (tx t), .int ((f : Nat) : Int)] ∧ TrOk t ∧ t.hgt < n ∧ ∀ p H', Same H H' → H p = none → H' p = some (.lst (vN (YM.ordT t f))) → Q (.ref p) H'
/-- a list of lists of numbers -/
def RowsAt (D : Addr) (H : Hp) (ps : List V) (rs : List (List Nat)) : Prop := Paired (fun v l => ∃ a, v = .ref a ∧ a ≠ D ∧ H a = some (.lst (vN l))) ps rs
theorem RowsAt.same {D : Addr} {H H' : Hp} (s : Same H H') {ps : List V} {rs : List (List Nat)} (h : RowsAt D H ps rs) : RowsAt D H' ps rs := Paired.mapP h fun _ _ ⟨a, e, n, q⟩ => ⟨a, e, n, s _ _ q⟩
theorem RowsAt.put {D : Addr} {H : Hp} {o : HO} {ps : List V} {rs : List (List Nat)} (h : RowsAt D H ps rs) : RowsAt D (upd H D o) ps rs := Paired.mapP h fun _ _ ⟨a, e, n, q⟩ => ⟨a, e, n, by rw [upd_ne n]; exact q⟩
theorem flat_take {rs : List (List Nat)} {i : Nat} {r : List Nat} (h : rs[i]? = some r) (j : Nat) : ((rs.take i).flatten ++ r.take j).length ≤ rs.flatten.length := by
  have e : rs = rs.take i ++ (r :: rs.drop (i + 1)) := by
    obtain ⟨h1, h2⟩ := List.getElem?_eq_some_iff.mp h
    rw [← h2, ← List.drop_eq_getElem_cons h1, List.take_append_drop]
  have e2 : rs.flatten.length = (rs.take i).flatten.length + (r.length + (rs.drop (i + 1)).flatten.length) := by
    rw [show rs.flatten = (rs.take i ++ (r :: rs.drop (i + 1))).flatten by rw [← e], List.flatten_append, List.flatten_cons, List.length_append, List.length_append]
  rw [e2, List.length_append, List.length_take]
  omega
/-- the orders of the first i parts -/
def ordsF : List YM.Tr → Nat → List (List Nat)
  | [], _ => []
  | t :: ts, f => YM.ordT t f :: ordsF ts (f + t.size)
def szL : List YM.Tr → Nat
  | [] => 0
  | t :: ts => t.size + szL ts
theorem ordsF_len : ∀ (ts : List YM.Tr) (f : Nat), (ordsF ts f).length = ts.length
  | [], _ => rfl
  | t :: ts, f => by
    show (ordsF ts (f + t.size)).length + 1 = ts.length + 1
    rw [ordsF_len ts]
theorem ordsF_snoc : ∀ (ts : List YM.Tr) (u : YM.Tr) (f : Nat), ordsF (ts ++ [u]) f = ordsF ts f ++ [YM.ordT u (f + szL ts)]
  | [], u, f => rfl
  | t :: ts, u, f => by
    show YM.ordT t f :: ordsF (ts ++ [u]) (f + t.size) = _
    rw [ordsF_snoc ts u (f + t.size)]
    show _ = YM.ordT t f :: (ordsF ts (f + t.size) ++ [YM.ordT u (f + (t.size + szL ts))])
    rw [Nat.add_assoc]
theorem szL_snoc : ∀ (ts : List YM.Tr) (u : YM.Tr), szL (ts ++ [u]) = szL ts + u.size
  | [], u => by simp [szL]
  | t :: ts, u => by
    show t.size + szL (ts ++ [u]) = _
    rw [szL_snoc ts u]
    show t.size + (szL ts + u.size) = t.size + szL ts + u.size
    omega
theorem ord_node (sq : Bool) (l r : YM.Tr) (f : Nat) : (if YM.opC sq = 40 then (ordsF [l, r] f).reverse else ordsF [l, r] f).flatten = YM.ordT (.node sq l r) f := by
  cases sq
  · rw [if_pos (by decide)]
    simp [ordsF, YM.ordT]
  · rw [if_neg (by decide)]
    simp [ordsF, YM.ordT]
theorem c_turned_order (T : Txt K w mg CG CR CY CS dI dO dT dC) : ∀ n, C8.Cal P w K mg base (n + 1) "turned_order" (spTOrd n) []
  | 0 => by
    refine cal_of T.d_turned_order b_turned_order sc_turned_order (fun vs H Q E h => ?_) (fun f cdv A outer s H vs Q E hr h => ?_)
    · obtain ⟨_, _, rfl, _⟩ := h
      rfl
    · obtain ⟨_, _, _, _, h, _⟩ := h
      exact absurd h (Nat.not_lt_zero _)
  | n + 1 => by
    have ih := c_turned_order T n
    refine cal_of T.d_turned_order b_turned_order sc_turned_order (fun vs H Q E h => ?_) (fun f cdv A outer s H vs Q E hr h => ?_)
    · obtain ⟨_, _, rfl, _⟩ := h
      rfl
    · obtain ⟨t, f0, rfl, ok, hh, k⟩ := h
      have nd := sc_turned_order.nd
      refine ⟨_, pss_cons (ps_set (i := 2) nd rfl (Or.inl rfl) (pe_lst pa_nil))
        (pss_cons (ps_for PassesOwn.never rfl (pi_list (C8.pe_c (c_parts_of T) hr (by omega) rfl (pa_cons (pv 0) pa_nil))) (pg_name (i := 3) nd rfl (Or.inl rfl))
          (pss_cons (ps_expr (pe_bm PySem.F.plainAttrs_list PySem.F.slot_list_append PySem.F.type_list_append mt_append (pv 2) (pa_cons (C8.pe_c ih hr (Nat.le_refl _) rfl (pa_cons (pv 3) (pa_cons (pv 1) pa_nil))) pa_nil)))
          (pss_one (ps_aug (i := 1) nd rfl (.inl rfl) (pe_callB call_len_seq (by rfl) T.z_len PySem.boot_len (pa_cons (pe_ix ix_list (pv 2) (pe_un un_neg pe_int) (fun _ _ => rfl)) pa_nil)) ip_add))))
        (pss_cons (ps_if (pt_not (pt_truth (pv 2) (by intro _; rfl))) (pss_one (ps_ret (pe_lst (pa_cons (pv 1) pa_nil)))) pss_nil)
        (C8.pss_cut (ps_if (pt_cmpR op_eq (pe_ix ix_str (pv 0) pe_int (fun _ _ => rfl)) pe_str (nomark _)) (pss_one (ps_set (i := 2) nd rfl (Or.inl rfl) (pe_revL (pv 2)))) pss_nil)
        (pss_one (ps_ret (pe_lc2 (own := [("row", 4), ("number", 5)]) (g := gName 4) (tt := tYes) (g1 := gName 5) (tt1 := tYes) (vs1 := [5]) (wi1 := iList K (tVar 4)) rfl nd (pi_list (pv 2))
          (blkOk_by (own := [("row", 4), ("number", 5)]) (N := n_turned_order) (sc := C8.fnScope s_turned_order) (by decide +kernel)) (by decide) (fun _ _ _ _ _ => pg_name (i := 4) nd rfl (Or.inl rfl)) (fun _ _ _ _ _ => pts_nil)
          (fun _ _ _ _ _ => pi_list (tl := tVar 4) (pv 4)) (fun _ _ _ _ _ => pg_name (i := 5) nd rfl (Or.inl rfl)) (fun _ _ _ _ _ => pts_nil) (fun _ _ _ _ _ => pv 5))))))), ?_⟩
      refine ⟨Nat.zero_le _, fun D hD => ?_⟩
      have s0 : Same H (upd H D (.lst [])) := Same.new hD
      refine ⟨_, rfl, t, rfl, ok, fun pp H1 s1 hp0 hpp => ⟨pp, rfl, ⟨_, SqL.of hpp⟩, ?_⟩⟩
      have hD1 : H1 D = some (.lst []) := s1 _ _ upd_same
      have nDp : pp ≠ D := (ne_of_none upd_same hp0).symm
      refine for_list (K := K) (a := pp) (xs := (partsT t).map fun t => V.str (tx t)) (fun i σ H' => ∃ (x3 : Option V) (ps : List V), σ = [some (.str (tx t)), some (.int (((f0 + szL ((partsT t).take i) : Nat) : Nat) : Int)), some (.ref D), x3, none, none] ∧ Same H H' ∧ H' pp = some (.lst ((partsT t).map fun t => V.str (tx t))) ∧
          H' D = some (.lst ps) ∧ RowsAt D H' ps (ordsF ((partsT t).take i) f0))
        ⟨none, [], rfl, s0.trans s1, hpp, hD1, .nil⟩ (fun i σ H' _ ⟨_, _, _, _, e, _⟩ => SqL.of e) ?_ ?_
      · rintro i x σ H2 hi ⟨x3, ps, rfl, s2, hp2, hd2, hrw⟩
        rw [List.getElem?_map] at hi
        obtain ⟨u, hu, rfl⟩ := Option.map_eq_some_iff.mp hi
        obtain ⟨uok, uh, hi2⟩ := part_ok ok hh hu
        refine ⟨_, rfl, .inl ⟨rfl, _, SqL.of hd2⟩, _, rfl, _, rfl, u, _, rfl, uok, uh, fun q H3 s3 hq0 hq => ?_⟩
        have hpl : ps.length = i := by
          rw [Paired.length hrw, ordsF_len, List.length_take]
          have := (List.getElem?_eq_some_iff.mp hu).1
          omega
        refine ⟨D, ps, _, rfl, rfl, s3 _ _ hd2, Nat.lt_of_le_of_lt (show ps.length ≤ 2 by omega) (by decide), ?_⟩
        have nqD : q ≠ D := fun e => by rw [e, hd2] at hq0; cases hq0
        have hq1 : upd H3 D (.lst (ps ++ [.ref q])) q = some (.lst (vN (YM.ordT u (f0 + szL ((partsT t).take i))))) := by rw [upd_ne nqD]; exact hq
        refine ⟨_, rfl, _, rfl, 1, rfl, D, _, _, .ref q, rfl, rfl, SqL.of upd_same, atI_last _ _, q, _, rfl, .inl (SqL.of hq1), _, _, rfl, rfl, ?_⟩
        refine ⟨some (.str (tx u)), _, ?_, Same.put (s2.trans s3) hD, ?_, upd_same, ?_⟩
        · rw [vN_len, YM.ordT_len, take_succ_get hu, szL_snoc]
          show [some (V.str (tx t)), some (V.int (((f0 + szL ((partsT t).take i) : Nat) : Int) + ((u.size : Nat) : Int))), some (V.ref D), some (V.str (tx u)), none, none] = _
          rw [show ((f0 + szL ((partsT t).take i) : Nat) : Int) + ((u.size : Nat) : Int) = ((f0 + (szL ((partsT t).take i) + u.size) : Nat) : Int) by omega]
        · rw [upd_ne nDp]
          exact s3 _ _ hp2
        · rw [take_succ_get hu, ordsF_snoc]
          exact Paired.snoc (RowsAt.put (RowsAt.same s3 hrw)) ⟨q, rfl, nqD, hq1⟩
      · rintro σ H2 ⟨x3, ps, rfl, s2, hp2, hd2, hrw⟩
        rw [List.length_map, List.take_length] at hrw ⊢
        refine ⟨_, rfl, _, .inl ⟨ps, SqL.of hd2, rfl⟩, ?_⟩
        cases t with
        | dev kd b =>
          cases hrw
          refine iteT ?_
          exact ⟨_, rfl, by show 1 ≤ sizeLine; decide, fun p hp => k p _ (Same.add s2 hp) (s2.free hp) upd_same⟩
        | node sq l r =>
          have hpn : ps.isEmpty = false := by
            cases hrw with
            | cons _ _ => rfl
          rw [hpn]
          refine iteF ?_
          have hlr : YM.told (.node sq l r) = YM.opC sq :: (YM.told l ++ 32 :: (YM.told r ++ [YM.clC sq])) := rfl
          refine ⟨fun σ' H' => ∃ (x1 x3 : Option V) (pd : Addr) (ps : List V) (rs : List (List Nat)), σ' = [some (.str (tx (.node sq l r))), x1, some (.ref pd), x3, none, none] ∧ Same H H' ∧ H' pd = some (.lst ps) ∧ RowsAt D H' ps rs ∧ rs.flatten = YM.ordT (.node sq l r) f0, ?_, ?_⟩
          · refine ⟨_, rfl, _, 0, YM.opC sq, rfl, rfl, ok.line, tx_at0 hlr, rfl, _, rfl, ?_⟩
            rw [decV par_eq]
            have eo := ord_node sq l r f0
            by_cases hq : YM.opC sq = 40
            · rw [decide_eq_true hq]
              rw [if_pos hq] at eo
              refine iteT ?_
              refine ⟨_, rfl, D, _, rfl, SqL.of hd2, fun pd hpd => ?_⟩
              exact ⟨_, _, pd, ps.reverse, _, rfl, Same.add s2 hpd, upd_same, RowsAt.same (Same.new hpd) (Paired.rev hrw), eo⟩
            · rw [decide_eq_false hq]
              rw [if_neg hq] at eo
              exact iteF ⟨_, _, D, ps, _, rfl, s2, hd2, hrw, eo⟩
          · rintro σ' H3 ⟨x1, x3', pd, ps', rs, rfl, s3, hpd, hrs, hfl⟩
            have hlen : rs.flatten.length ≤ 3 := by rw [hfl, YM.ordT_len]; exact ok.2
            refine ⟨_, rfl, pd, rfl, ⟨_, SqL.of hpd⟩, fun L hL => ?_⟩
            refine lc2_list (K := K) (a := pd) (xs := ps') (fun i H' => Same H3 H' ∧ H' L = some (.lst (vN (rs.take i).flatten))) ⟨Same.new hL, upd_same⟩ (fun i H' _ ⟨e, _⟩ => SqL.of (e _ _ hpd)) ?_ ?_
            · rintro i x H4 hi ⟨s4, hL4⟩
              obtain ⟨rr, hrr, a, rfl, _, ha⟩ := Paired.get hrs hi
              refine ⟨rfl, tyes_go ?_⟩
              refine ⟨_, rfl, a, rfl, ⟨_, SqL.of (s4 _ _ ha)⟩, ?_⟩
              refine lci_list (K := K) (a := a) (xs := vN rr) (fun j H' => Same H3 H' ∧ H' L = some (.lst (vN ((rs.take i).flatten ++ rr.take j)))) ⟨s4, by rw [List.take_zero, List.append_nil]; exact hL4⟩ (fun j H' _ ⟨e, _⟩ => SqL.of (e _ _ ha)) ?_ ?_
              · rintro j y H5 hj ⟨s5, hL5⟩
                unfold vN at hj
                rw [List.getElem?_map] at hj
                obtain ⟨n', hn', rfl⟩ := Option.map_eq_some_iff.mp hj
                refine ⟨rfl, tyes_go ?_⟩
                refine ⟨_, rfl, _, hL5, ?_, Same.put s5 hL, ?_⟩
                · rw [vN_len]
                  have := flat_take hrr j
                  exact Nat.lt_of_le_of_lt (show _ ≤ 3 by omega) (by decide)
                · rw [upd_same, take_succ_get hn', ← List.append_assoc, vN_app ((rs.take i).flatten ++ rr.take j)]
                  rfl
              · rintro H5 ⟨s5, hL5⟩
                rw [vN_len, List.take_length] at hL5
                refine ⟨s5, ?_⟩
                rw [hL5, take_succ_get hrr, List.flatten_append]
                simp
            · rintro H4 ⟨s4, hL4⟩
              rw [Paired.length hrs, List.take_length, hfl] at hL4
              exact k L H4 (s3.trans s4) (s3.free hL) hL4
end
end YW
namespace YW
open PySem L2
/-! ### the reading in the heap -/
theorem ne_mem {M : List Addr} {e a : Addr} (h : e ∉ M) (ha : a ∈ M) : e ≠ a := fun q => h (by rw [q]; exact ha)
abbrev GA := Addr × Addr × Addr
def rfs (z : Str) (at_ : Nat) (lk lb ll lg : Addr) : List (Str × V) := [("text", .str z), ("at", .int ((at_ : Nat) : Int)), ("kinds", .ref lk), ("bounds", .ref lb), ("links", .ref ll), ("groups", .ref lg)]
def gfs (sq : Bool) (ly : Addr) : List (Str × V) := [("sign", .str ⟨#[YM.opC sq]⟩), ("yards", .ref ly)]
def muts (p lk lb ll lg : Addr) (gs : List GA) : List Addr := p :: lk :: lb :: ll :: lg :: gs.map (·.2.2)
def sqOf : YM.Fr → Bool
  | .lft sq _ => sq
  | .rgt sq _ _ => sq
/-- entries and exits of what was read -/
def YV (M : List Addr) (H : Hp) (v : V) (es xs : List Nat) : Prop := ∃ t e x, v = .ref t ∧ H t = some (.tup [.ref e, .ref x]) ∧ H e = some (.lst (vN es)) ∧ H x = some (.lst (vN xs)) ∧ e ∉ M ∧ x ∉ M
def FrIn (M : List Addr) (H : Hp) (ly : Addr) : YM.Fr → Prop
  | .lft _ _ => H ly = some (.lst [])
  | .rgt _ l f => ∃ v, H ly = some (.lst [v]) ∧ YV M H v (YM.ent l f) (YM.ext l f)
def FrAt (CG : Addr) (M : List Addr) (H : Hp) (g : GA) (fr : YM.Fr) : Prop := H g.1 = some (.ins CG g.2.1 (gfs (sqOf fr) g.2.2)) ∧ g.1 ∉ M ∧ FrIn M H g.2.2 fr
section
variable {M M' : List Addr} {H H' : Hp} {v : V} {es xs : List Nat} {CG : Addr} {g : GA} {fr : YM.Fr}
theorem YV.same (h : YV M H v es xs) (s : Same H H') : YV M H' v es xs := let ⟨t, e, x, a, b, c, d, f⟩ := h; ⟨t, e, x, a, s _ _ b, s _ _ c, s _ _ d, f⟩
theorem YV.put (h : YV M H v es xs) {a : Addr} {u o : HO} (ha : a ∈ M) (hu : H a = some u) (hn : ∀ xs, u ≠ .tup xs) : YV M (upd H a o) v es xs := by
  obtain ⟨t, e, x, rfl, h1, h2, h3, h4, h5⟩ := h
  exact ⟨t, e, x, rfl, KeepT.put hu hn _ _ h1, by rw [upd_ne (ne_mem h4 ha)]; exact h2, by rw [upd_ne (ne_mem h5 ha)]; exact h3, h4, h5⟩
theorem YV.more (h : YV M H v es xs) (hm : ∀ a, a ∈ M' → a ∈ M ∨ H a = none) : YV M' H v es xs := by
  obtain ⟨t, e, x, rfl, h1, h2, h3, h4, h5⟩ := h
  refine ⟨t, e, x, rfl, h1, h2, h3, fun q => ?_, fun q => ?_⟩
  · rcases hm _ q with z | z
    · exact h4 z
    · rw [z] at h2
      cases h2
  · rcases hm _ q with z | z
    · exact h5 z
    · rw [z] at h3
      cases h3
theorem FrIn.same (h : FrIn M H g.2.2 fr) (s : Same H H') : FrIn M H' g.2.2 fr := by
  cases fr with
  | lft _ _ => exact s _ _ h
  | rgt _ _ _ =>
    obtain ⟨v, h1, h2⟩ := h
    exact ⟨v, s _ _ h1, h2.same s⟩
theorem FrAt.same (h : FrAt CG M H g fr) (s : Same H H') : FrAt CG M H' g fr := ⟨s _ _ h.1, h.2.1, FrIn.same h.2.2 s⟩
theorem FrAt.put (h : FrAt CG M H g fr) {a : Addr} {u o : HO} (ha : a ∈ M) (hu : H a = some u) (hn : ∀ xs, u ≠ .tup xs) (ne : g.2.2 ≠ a) : FrAt CG M (upd H a o) g fr := by
  refine ⟨by rw [upd_ne (ne_mem h.2.1 ha)]; exact h.1, h.2.1, ?_⟩
  have h3 := h.2.2
  cases fr with
  | lft _ _ => exact (upd_ne ne).trans h3
  | rgt _ _ _ =>
    obtain ⟨v, h1, h2⟩ := h3
    exact ⟨v, (upd_ne ne).trans h1, h2.put ha hu hn⟩
theorem FrAt.more (h : FrAt CG M H g fr) (hm : ∀ a, a ∈ M' → a ∈ M ∨ H a = none) : FrAt CG M' H g fr := by
  refine ⟨h.1, fun q => ?_, ?_⟩
  · rcases hm _ q with z | z
    · exact h.2.1 z
    · have := h.1
      rw [z] at this
      cases this
  · have h3 := h.2.2
    cases fr with
    | lft _ _ => exact h3
    | rgt _ _ _ =>
      obtain ⟨v, h1, h2⟩ := h3
      exact ⟨v, h1, h2.more hm⟩
end
structure RdA (CR CG : Addr) (H0 H : Hp) (p : Addr) (z : Str) (at_ : Nat) (ks : List YM.Kd) (bs : List Nat) (lks : List (Int × Int)) (fs : List YM.Fr) (gs : List GA) (dx lk lb ll lg : Addr) : Prop where
  same : Same H0 H
  nd : (muts p lk lb ll lg gs).Nodup
  fr : ∀ a ∈ muts p lk lb ll lg gs, H0 a = none
  hp : H p = some (.ins CR dx (rfs z at_ lk lb ll lg))
  hk : H lk = some (.lst (ks.map kdV))
  hb : H lb = some (.lst (bs.map bdV))
  hl : ∃ ls, H ll = some (.lst ls) ∧ Paired (LinkAt H) ls lks
  hg : H lg = some (.lst (gs.map fun g => V.ref g.1).reverse)
  hf : Paired (FrAt CG (muts p lk lb ll lg gs) H) gs fs
theorem Paired.mapM {α β : Type} {F G : α → β → Prop} : ∀ {l : List α} {r : List β}, Paired F l r → (∀ a b, a ∈ l → F a b → G a b) → Paired G l r
  | _, _, .nil, _ => .nil
  | _, _, .cons h t, k => .cons (k _ _ List.mem_cons_self h) (Paired.mapM t fun a b ha => k a b (List.mem_cons_of_mem _ ha))
section
variable {CR CG : Addr} {H0 H H' : Hp} {p : Addr} {z : Str} {at_ : Nat} {ks : List YM.Kd} {bs : List Nat} {lks : List (Int × Int)} {fs : List YM.Fr} {gs : List GA} {dx lk lb ll lg : Addr}
theorem RdA.ne (h : RdA CR CG H0 H p z at_ ks bs lks fs gs dx lk lb ll lg) : (p ≠ lk ∧ p ≠ lb ∧ p ≠ ll ∧ p ≠ lg) ∧ (lk ≠ lb ∧ lk ≠ ll ∧ lk ≠ lg) ∧ (lb ≠ ll ∧ lb ≠ lg) ∧ ll ≠ lg ∧ ∀ g ∈ gs, g.2.2 ≠ p ∧ g.2.2 ≠ lk ∧ g.2.2 ≠ lb ∧ g.2.2 ≠ ll ∧ g.2.2 ≠ lg := by
  have := h.nd
  unfold muts at this
  simp only [List.nodup_cons, List.mem_cons, not_or] at this
  obtain ⟨⟨a1, a2, a3, a4, a5⟩, ⟨b1, b2, b3, b4⟩, ⟨c1, c2, c3⟩, ⟨d1, d2⟩, e1, _⟩ := this
  refine ⟨⟨a1, a2, a3, a4⟩, ⟨b1, b2, b3⟩, ⟨c1, c2⟩, d1, fun g hg => ?_⟩
  have hm : g.2.2 ∈ gs.map (·.2.2) := List.mem_map.mpr ⟨g, hg, rfl⟩
  exact ⟨fun q => a5 (q ▸ hm), fun q => b4 (q ▸ hm), fun q => c3 (q ▸ hm), fun q => d2 (q ▸ hm), fun q => e1 (q ▸ hm)⟩
theorem RdA.grow (h : RdA CR CG H0 H p z at_ ks bs lks fs gs dx lk lb ll lg) (s : Same H H') : RdA CR CG H0 H' p z at_ ks bs lks fs gs dx lk lb ll lg := by
  obtain ⟨ls, h1, h2⟩ := h.hl
  exact ⟨h.same.trans s, h.nd, h.fr, s _ _ h.hp, s _ _ h.hk, s _ _ h.hb, ⟨ls, s _ _ h1, Paired.mapP h2 fun _ _ q => q.keep (Same.keepT s)⟩, s _ _ h.hg, Paired.mapP h.hf fun _ _ q => q.same s⟩
theorem RdA.mp (h : RdA CR CG H0 H p z at_ ks bs lks fs gs dx lk lb ll lg) : p ∈ muts p lk lb ll lg gs ∧ lk ∈ muts p lk lb ll lg gs ∧ lb ∈ muts p lk lb ll lg gs ∧ ll ∈ muts p lk lb ll lg gs ∧ lg ∈ muts p lk lb ll lg gs := by
  unfold muts
  simp
theorem RdA.setAt (h : RdA CR CG H0 H p z at_ ks bs lks fs gs dx lk lb ll lg) (n : Nat) : RdA CR CG H0 (upd H p (.ins CR dx (rfs z n lk lb ll lg))) p z n ks bs lks fs gs dx lk lb ll lg := by
  obtain ⟨⟨a1, a2, a3, a4⟩, ⟨b1, b2, b3⟩, ⟨c1, c2⟩, d1, e⟩ := h.ne
  obtain ⟨m1, m2, m3, m4, m5⟩ := h.mp
  obtain ⟨ls, h1, h2⟩ := h.hl
  have nt : ∀ xs, HO.ins CR dx (rfs z at_ lk lb ll lg) ≠ .tup xs := fun _ q => by cases q
  exact ⟨Same.put h.same (h.fr _ m1), h.nd, h.fr, upd_same, by rw [upd_ne a1.symm]; exact h.hk, by rw [upd_ne a2.symm]; exact h.hb, ⟨ls, by rw [upd_ne a3.symm]; exact h1, Paired.mapP h2 fun _ _ q => q.keep (KeepT.put h.hp nt)⟩, by rw [upd_ne a4.symm]; exact h.hg,
    Paired.mapM h.hf fun g _ hg q => q.put m1 h.hp nt (e g hg).1⟩
theorem RdA.addK (h : RdA CR CG H0 H p z at_ ks bs lks fs gs dx lk lb ll lg) (k : YM.Kd) : RdA CR CG H0 (upd H lk (.lst (ks.map kdV ++ [kdV k]))) p z at_ (ks ++ [k]) bs lks fs gs dx lk lb ll lg := by
  obtain ⟨⟨a1, a2, a3, a4⟩, ⟨b1, b2, b3⟩, ⟨c1, c2⟩, d1, e⟩ := h.ne
  obtain ⟨m1, m2, m3, m4, m5⟩ := h.mp
  obtain ⟨ls, h1, h2⟩ := h.hl
  have nt : ∀ xs, HO.lst (ks.map kdV) ≠ .tup xs := fun _ q => by cases q
  exact ⟨Same.put h.same (h.fr _ m2), h.nd, h.fr, by rw [upd_ne a1]; exact h.hp, by rw [upd_same, List.map_append]; rfl, by rw [upd_ne b1.symm]; exact h.hb, ⟨ls, by rw [upd_ne b2.symm]; exact h1, Paired.mapP h2 fun _ _ q => q.keep (KeepT.put h.hk nt)⟩, by rw [upd_ne b3.symm]; exact h.hg,
    Paired.mapM h.hf fun g _ hg q => q.put m2 h.hk nt (e g hg).2.1⟩
theorem RdA.addB (h : RdA CR CG H0 H p z at_ ks bs lks fs gs dx lk lb ll lg) (b : Nat) : RdA CR CG H0 (upd H lb (.lst (bs.map bdV ++ [bdV b]))) p z at_ ks (bs ++ [b]) lks fs gs dx lk lb ll lg := by
  obtain ⟨⟨a1, a2, a3, a4⟩, ⟨b1, b2, b3⟩, ⟨c1, c2⟩, d1, e⟩ := h.ne
  obtain ⟨m1, m2, m3, m4, m5⟩ := h.mp
  obtain ⟨ls, h1, h2⟩ := h.hl
  have nt : ∀ xs, HO.lst (bs.map bdV) ≠ .tup xs := fun _ q => by cases q
  exact ⟨Same.put h.same (h.fr _ m3), h.nd, h.fr, by rw [upd_ne a2]; exact h.hp, by rw [upd_ne b1]; exact h.hk, by rw [upd_same, List.map_append]; rfl, ⟨ls, by rw [upd_ne c1.symm]; exact h1, Paired.mapP h2 fun _ _ q => q.keep (KeepT.put h.hb nt)⟩, by rw [upd_ne c2.symm]; exact h.hg,
    Paired.mapM h.hf fun g _ hg q => q.put m3 h.hb nt (e g hg).2.2.1⟩
theorem RdA.addL (h : RdA CR CG H0 H p z at_ ks bs lks fs gs dx lk lb ll lg) {ls : List V} (hls : H ll = some (.lst ls)) {v : V} {l : Int × Int} (hv : LinkAt H v l) : RdA CR CG H0 (upd H ll (.lst (ls ++ [v]))) p z at_ ks bs (lks ++ [l]) fs gs dx lk lb ll lg := by
  obtain ⟨⟨a1, a2, a3, a4⟩, ⟨b1, b2, b3⟩, ⟨c1, c2⟩, d1, e⟩ := h.ne
  obtain ⟨m1, m2, m3, m4, m5⟩ := h.mp
  obtain ⟨ls', h1, h2⟩ := h.hl
  rw [hls] at h1
  cases h1
  have nt : ∀ xs, HO.lst ls ≠ .tup xs := fun _ q => by cases q
  have kt : KeepT H (upd H ll (.lst (ls ++ [v]))) := KeepT.put hls nt
  exact ⟨Same.put h.same (h.fr _ m4), h.nd, h.fr, by rw [upd_ne a3]; exact h.hp, by rw [upd_ne b2]; exact h.hk, by rw [upd_ne c1]; exact h.hb, ⟨_, upd_same, Paired.snoc (Paired.mapP h2 fun _ _ q => q.keep kt) (hv.keep kt)⟩, by rw [upd_ne d1.symm]; exact h.hg,
    Paired.mapM h.hf fun g _ hg q => q.put m4 hls nt (e g hg).2.2.2.1⟩
theorem RdA.some_ (h : RdA CR CG H0 H p z at_ ks bs lks fs gs dx lk lb ll lg) : ∀ a, a ∈ muts p lk lb ll lg gs → H a ≠ none := fun a ha => by
  unfold muts at ha
  simp only [List.mem_cons, List.mem_map] at ha
  rcases ha with rfl | rfl | rfl | rfl | rfl | ⟨g', hg', rfl⟩
  · rw [h.hp]; simp
  · rw [h.hk]; simp
  · rw [h.hb]; simp
  · obtain ⟨ls, q, _⟩ := h.hl; rw [q]; simp
  · rw [h.hg]; simp
  · obtain ⟨fr', _, q⟩ := Paired.mem h.hf hg'
    have q3 := q.2.2
    cases fr' with
    | lft _ _ => rw [show H g'.2.2 = some (.lst []) from q3]; simp
    | rgt _ _ _ => obtain ⟨v, q4, _⟩ := q3; rw [q4]; simp
/-- a new group is pushed -/
theorem RdA.push (h : RdA CR CG H0 H p z at_ ks bs lks fs gs dx lk lb ll lg) {H1 : Hp} (s : Same H H1) {g : GA} {sq : Bool} {r : YM.Tr} (hg1 : H1 g.1 = some (.ins CG g.2.1 (gfs sq g.2.2))) (hly : H1 g.2.2 = some (.lst [])) (n1 : H g.1 = none) (n2 : H g.2.2 = none) (n12 : g.1 ≠ g.2.2) :
    RdA CR CG H0 (upd H1 lg (.lst ((gs.map fun g => V.ref g.1).reverse ++ [.ref g.1]))) p z at_ ks bs lks (.lft sq r :: fs) (g :: gs) dx lk lb ll lg := by
  have h1 := h.grow s
  obtain ⟨⟨a1, a2, a3, a4⟩, ⟨b1, b2, b3⟩, ⟨c1, c2⟩, d1, e⟩ := h.ne
  obtain ⟨m1, m2, m3, m4, m5⟩ := h.mp
  obtain ⟨ls, l1, l2⟩ := h1.hl
  have nt : ∀ xs, HO.lst ((gs.map fun g => V.ref g.1).reverse) ≠ .tup xs := fun _ q => by cases q
  have kt : KeepT H1 (upd H1 lg (.lst ((gs.map fun g => V.ref g.1).reverse ++ [.ref g.1]))) := KeepT.put h1.hg nt
  have hM : ∀ a, a ∈ muts p lk lb ll lg gs → H a ≠ none := h.some_
  have hmem : ∀ a, a ∈ muts p lk lb ll lg (g :: gs) ↔ a = g.2.2 ∨ a ∈ muts p lk lb ll lg gs := fun a => by
    unfold muts
    simp only [List.mem_cons, List.map_cons]
    constructor
    · rintro (q | q | q | q | q | q | q)
      · exact .inr (.inl q)
      · exact .inr (.inr (.inl q))
      · exact .inr (.inr (.inr (.inl q)))
      · exact .inr (.inr (.inr (.inr (.inl q))))
      · exact .inr (.inr (.inr (.inr (.inr (.inl q)))))
      · exact .inl q
      · exact .inr (.inr (.inr (.inr (.inr (.inr q)))))
    · rintro (q | q | q | q | q | q | q)
      · exact .inr (.inr (.inr (.inr (.inr (.inl q)))))
      · exact .inl q
      · exact .inr (.inl q)
      · exact .inr (.inr (.inl q))
      · exact .inr (.inr (.inr (.inl q)))
      · exact .inr (.inr (.inr (.inr (.inl q))))
      · exact .inr (.inr (.inr (.inr (.inr (.inr q)))))
  have hlyM : g.2.2 ∉ muts p lk lb ll lg gs := fun q => hM _ q n2
  have hnd : (muts p lk lb ll lg (g :: gs)).Nodup := by
    have hp : (muts p lk lb ll lg (g :: gs)).Perm (g.2.2 :: muts p lk lb ll lg gs) := by
      show ([p, lk, lb, ll, lg] ++ g.2.2 :: gs.map (·.2.2)).Perm (g.2.2 :: ([p, lk, lb, ll, lg] ++ gs.map (·.2.2)))
      exact List.perm_middle
    exact hp.nodup_iff.mpr (List.nodup_cons.mpr ⟨hlyM, h.nd⟩)
  have hlgne : g.1 ≠ lg := fun q => hM lg m5 (q ▸ n1)
  have hlyne : g.2.2 ≠ lg := fun q => hM lg m5 (q ▸ n2)
  refine ⟨Same.put h1.same (h.fr _ m5), hnd, fun a ha => ?_, by rw [upd_ne a4]; exact h1.hp, by rw [upd_ne b3]; exact h1.hk, by rw [upd_ne c2]; exact h1.hb, ⟨ls, by rw [upd_ne d1]; exact l1, Paired.mapP l2 fun _ _ q => q.keep kt⟩, ?_, ?_⟩
  · rcases (hmem a).mp ha with rfl | q
    · exact h.same.free n2
    · exact h.fr a q
  · rw [upd_same, List.map_cons, List.reverse_cons]
  · refine .cons ⟨?_, fun q => ?_, ?_⟩ (Paired.mapM h.hf fun g' fr' hg' q => ?_)
    · rw [upd_ne hlgne]
      exact hg1
    · rcases (hmem _).mp q with q | q
      · exact n12 q
      · exact hM _ q n1
    · show (upd H1 lg _) g.2.2 = _
      rw [upd_ne hlyne]
      exact hly
    · have q1 : FrAt CG (muts p lk lb ll lg (g :: gs)) H g' fr' := q.more fun a ha => by
        rcases (hmem a).mp ha with rfl | ha
        · exact .inr n2
        · exact .inl ha
      exact (q1.same s).put ((hmem lg).mpr (.inr m5)) h1.hg nt (e g' hg').2.2.2.2
/-- the yard is put behind the others of the last group -/
theorem RdA.addY (h : RdA CR CG H0 H p z at_ ks bs lks fs gs dx lk lb ll lg) {g : GA} {gs' : List GA} {sq : Bool} {r : YM.Tr} {fs' : List YM.Fr} (eg : gs = g :: gs') (ef : fs = .lft sq r :: fs') {v : V} {l : YM.Tr} {f : Nat} (hv : YV (muts p lk lb ll lg gs) H v (YM.ent l f) (YM.ext l f)) :
    RdA CR CG H0 (upd H g.2.2 (.lst ([] ++ [v]))) p z at_ ks bs lks (.rgt sq l f :: fs') gs dx lk lb ll lg := by
  subst eg ef
  obtain ⟨⟨a1, a2, a3, a4⟩, ⟨b1, b2, b3⟩, ⟨c1, c2⟩, d1, e⟩ := h.ne
  obtain ⟨ls, l1, l2⟩ := h.hl
  obtain ⟨e1, e2, e3, e4, e5⟩ := e g List.mem_cons_self
  cases h.hf with
  | cons hg hrest =>
    have hly : H g.2.2 = some (.lst []) := hg.2.2
    have nt : ∀ xs, HO.lst ([] : List V) ≠ .tup xs := fun _ q => by cases q
    have kt : KeepT H (upd H g.2.2 (.lst ([] ++ [v]))) := KeepT.put hly nt
    have hm : g.2.2 ∈ muts p lk lb ll lg (g :: gs') := by unfold muts; simp
    refine ⟨Same.put h.same (h.fr _ hm), h.nd, h.fr, by rw [upd_ne e1.symm]; exact h.hp, by rw [upd_ne e2.symm]; exact h.hk, by rw [upd_ne e3.symm]; exact h.hb, ⟨ls, by rw [upd_ne e4.symm]; exact l1, Paired.mapP l2 fun _ _ q => q.keep kt⟩, by rw [upd_ne e5.symm]; exact h.hg,
      .cons ⟨?_, hg.2.1, v, upd_same, hv.put hm hly nt⟩ (Paired.mapM hrest fun g' fr' hg' q => q.put hm hly nt ?_)⟩
    · rw [upd_ne (ne_mem hg.2.1 hm)]
      exact hg.1
    · have := h.nd
      unfold muts at this
      simp only [List.nodup_cons, List.mem_cons, not_or, List.map_cons] at this
      have hn := this.2.2.2.2.2.1
      exact fun q => hn (List.mem_map.mpr ⟨g', hg', q⟩)
/-- the last group is taken off -/
theorem RdA.pop {g : GA} {fr : YM.Fr} (h : RdA CR CG H0 H p z at_ ks bs lks (fr :: fs) (g :: gs) dx lk lb ll lg) : RdA CR CG H0 (upd H lg (.lst (gs.map fun g => V.ref g.1).reverse)) p z at_ ks bs lks fs gs dx lk lb ll lg := by
  obtain ⟨⟨a1, a2, a3, a4⟩, ⟨b1, b2, b3⟩, ⟨c1, c2⟩, d1, e⟩ := h.ne
  obtain ⟨m1, m2, m3, m4, m5⟩ := h.mp
  obtain ⟨ls, l1, l2⟩ := h.hl
  have nt : ∀ xs, HO.lst (((g :: gs).map fun g => V.ref g.1).reverse) ≠ .tup xs := fun _ q => by cases q
  have kt : KeepT H (upd H lg (.lst (gs.map fun g => V.ref g.1).reverse)) := KeepT.put h.hg nt
  have hsub : ∀ a, a ∈ muts p lk lb ll lg gs → a ∈ muts p lk lb ll lg (g :: gs) := fun a ha => by
    unfold muts at ha ⊢
    simp only [List.mem_cons, List.map_cons] at ha ⊢
    rcases ha with q | q | q | q | q | q
    · exact .inl q
    · exact .inr (.inl q)
    · exact .inr (.inr (.inl q))
    · exact .inr (.inr (.inr (.inl q)))
    · exact .inr (.inr (.inr (.inr (.inl q))))
    · exact .inr (.inr (.inr (.inr (.inr (.inr q)))))
  have hnd : (muts p lk lb ll lg gs).Nodup := by
    have hp : (muts p lk lb ll lg (g :: gs)).Perm (g.2.2 :: muts p lk lb ll lg gs) := by
      show ([p, lk, lb, ll, lg] ++ g.2.2 :: gs.map (·.2.2)).Perm (g.2.2 :: ([p, lk, lb, ll, lg] ++ gs.map (·.2.2)))
      exact List.perm_middle
    exact (List.nodup_cons.mp (hp.nodup_iff.mp h.nd)).2
  cases h.hf with
  | cons hg hrest =>
    refine ⟨Same.put h.same (h.fr _ m5), hnd, fun a ha => h.fr a (hsub a ha), by rw [upd_ne a4]; exact h.hp, by rw [upd_ne b3]; exact h.hk, by rw [upd_ne c2]; exact h.hb, ⟨ls, by rw [upd_ne d1]; exact l1, Paired.mapP l2 fun _ _ q => q.keep kt⟩, upd_same,
      Paired.mapM hrest fun g' fr' hg' q => ?_⟩
    exact (q.put m5 h.hg nt (e g' (List.mem_cons_of_mem _ hg')).2.2.2.2).more fun a ha => .inl (hsub a ha)
end
end YW
namespace YW
open PySem L2
def sgnOf : List Nat → Str
  | [] => ⟨#[]⟩
  | c :: _ => ⟨#[c]⟩
theorem sgn_cut (z : Str) (i : Nat) : cutS z (some ((i : Nat) : Int)) (some (((i : Nat) : Int) + 1)) = sgnOf (z.cps.toList.drop i) := by
  unfold cutS
  have e : HT.sIx z.length z.length (some (((i : Nat) : Int) + 1)) = min (i + 1) z.length := HT.sIx_nat z.length z.length (i + 1)
  rw [e, HT.sIx_nat]
  have hl : z.cps.toList.length = z.length := Array.length_toList
  by_cases hi : i < z.length
  · rw [Nat.min_eq_left (by omega), Nat.min_eq_left (by omega), show i + 1 - i = 1 by omega]
    rw [List.drop_eq_getElem_cons (by omega)]
    rfl
  · rw [Nat.min_eq_right (by omega), Nat.min_eq_right (by omega), List.drop_of_length_le (by omega), List.drop_of_length_le (by omega), List.take_nil]
    rfl
section
variable {P : Program} {w : World} {K : PySem.W.Frag} {mg : Str → Option Value} {base : Heap} {CG CR CY CS dI dO dT dC : Addr}
def spGInit (CG : Addr) : Sp := fun vs H Q _ => ∃ (g dxg : Addr) (sg : Str), vs = [.ref g, .str sg] ∧ H g = some (.ins CG dxg []) ∧
  ∀ ly, H ly = none → g ≠ ly → Q .non (upd (upd (upd H g (.ins CG dxg [("sign", .str sg)])) ly (.lst [])) g (.ins CG dxg [("sign", .str sg), ("yards", .ref ly)]))
theorem k_ginit (T : Txt K w mg CG CR CY CS dI dO dT dC) : C8.Mak P w K mg base 1 "Group" CG (spGInit CG) [] := by
  refine mak_of T.g_G T.d_G_init b_G_init sc_G_init (fun vs H Q E h => ?_) (fun f cdv A outer s H vs Q E hr h => ?_)
  · obtain ⟨_, _, _, rfl, _⟩ := h
    rfl
  · obtain ⟨g, dxg, sg, rfl, hg, k⟩ := h
    refine ⟨_, pss_cons (ps_fld (pv 0) (pv 1) rfl) (pss_one (ps_fld (pv 0) (pe_lst pa_nil) rfl)), ?_⟩
    refine ⟨_, rfl, _, rfl, g, CG, dxg, _, rfl, hg, T.c_G, T.a_G_sign, by decide, ?_⟩
    refine ⟨Nat.zero_le _, fun ly hly => ?_⟩
    have ne : g ≠ ly := ne_of_none upd_same hly
    refine ⟨_, rfl, g, CG, dxg, _, rfl, (by rw [upd_ne ne]; exact upd_same), T.c_G, T.a_G_yards, by show 1 < 1000; decide, ?_⟩
    exact k ly (by rw [upd_ne ne.symm] at hly; exact hly) ne
def spRInit (CR CG : Addr) : Sp := fun vs H Q _ => ∃ (H0 : Hp) (p dx : Addr) (z : Str), vs = [.ref p, .str z] ∧ Same H0 H ∧ H0 p = none ∧ H p = some (.ins CR dx []) ∧ ∀ H' lk lb ll lg, RdA CR CG H0 H' p z 0 [] [] [] [] [] dx lk lb ll lg → Q .non H'
theorem k_rinit (T : Txt K w mg CG CR CY CS dI dO dT dC) : C8.Mak P w K mg base 1 "Reading" CR (spRInit CR CG) [] := by
  refine mak_of T.g_R T.d_R_init b_R_init sc_R_init (fun vs H Q E h => ?_) (fun f cdv A outer s H vs Q E hr h => ?_)
  · obtain ⟨_, _, _, _, rfl, _⟩ := h
    rfl
  · obtain ⟨H0, p, dx, z, rfl, s0, p0, hp, k⟩ := h
    refine ⟨_, pss_cons (ps_fld (pv 0) (pv 1) rfl) (pss_cons (ps_fld (pv 0) pe_int rfl) (pss_cons (ps_fld (pv 0) (pe_lst pa_nil) rfl) (pss_cons (ps_fld (pv 0) (pe_lst pa_nil) rfl) (pss_cons (ps_fld (pv 0) (pe_lst pa_nil) rfl) (pss_one (ps_fld (pv 0) (pe_lst pa_nil) rfl)))))), ?_⟩
    refine ⟨_, rfl, _, rfl, p, CR, dx, _, rfl, hp, T.c_R, T.a_R_text, by decide, ?_⟩
    refine ⟨_, rfl, p, CR, dx, _, rfl, upd_same, T.c_R, T.a_R_at, by show 1 < 1000; decide, ?_⟩
    rw [upd_upd]
    have s2 : Same H0 (upd H p (.ins CR dx (putF "at" (.int 0) (putF "text" (.str z) [])))) := Same.put s0 p0
    have e2 : (upd H p (.ins CR dx (putF "at" (.int 0) (putF "text" (.str z) [])))) p = some (.ins CR dx (putF "at" (.int 0) (putF "text" (.str z) []))) := upd_same
    refine ⟨Nat.zero_le _, fun lk hlk => ?_⟩
    have nk : p ≠ lk := ne_of_none e2 hlk
    have k0 : H0 lk = none := s2.free hlk
    refine ⟨_, rfl, p, CR, dx, _, rfl, (by rw [upd_ne nk]; exact e2), T.c_R, T.a_R_kinds, by show 2 < 1000; decide, ?_⟩
    have s3 := Same.put (p := p) (o := .ins CR dx (putF "kinds" (.ref lk) (putF "at" (.int 0) (putF "text" (.str z) [])))) (Same.add (o := .lst []) s2 hlk) p0
    have e3 : (upd (upd (upd H p (.ins CR dx (putF "at" (.int 0) (putF "text" (.str z) [])))) lk (.lst [])) p (.ins CR dx (putF "kinds" (.ref lk) (putF "at" (.int 0) (putF "text" (.str z) []))))) p = some (.ins CR dx (putF "kinds" (.ref lk) (putF "at" (.int 0) (putF "text" (.str z) [])))) := upd_same
    have k3 : (upd (upd (upd H p (.ins CR dx (putF "at" (.int 0) (putF "text" (.str z) [])))) lk (.lst [])) p (.ins CR dx (putF "kinds" (.ref lk) (putF "at" (.int 0) (putF "text" (.str z) []))))) lk = some (.lst []) := by rw [upd_ne nk.symm, upd_same]
    generalize (upd (upd (upd H p (.ins CR dx (putF "at" (.int 0) (putF "text" (.str z) [])))) lk (.lst [])) p (.ins CR dx (putF "kinds" (.ref lk) (putF "at" (.int 0) (putF "text" (.str z) []))))) = H3 at s3 e3 k3 ⊢
    refine ⟨Nat.zero_le _, fun lb hlb => ?_⟩
    have nb : p ≠ lb := ne_of_none e3 hlb
    have nkb : lk ≠ lb := ne_of_none k3 hlb
    have b0 : H0 lb = none := s3.free hlb
    refine ⟨_, rfl, p, CR, dx, _, rfl, (by rw [upd_ne nb]; exact e3), T.c_R, T.a_R_bounds, by show 3 < 1000; decide, ?_⟩
    have s4 := Same.put (p := p) (o := .ins CR dx (putF "bounds" (.ref lb) (putF "kinds" (.ref lk) (putF "at" (.int 0) (putF "text" (.str z) []))))) (Same.add (o := .lst []) s3 hlb) p0
    have e4 : (upd (upd H3 lb (.lst [])) p (.ins CR dx (putF "bounds" (.ref lb) (putF "kinds" (.ref lk) (putF "at" (.int 0) (putF "text" (.str z) [])))))) p = some (.ins CR dx (putF "bounds" (.ref lb) (putF "kinds" (.ref lk) (putF "at" (.int 0) (putF "text" (.str z) []))))) := upd_same
    have k4 : (upd (upd H3 lb (.lst [])) p (.ins CR dx (putF "bounds" (.ref lb) (putF "kinds" (.ref lk) (putF "at" (.int 0) (putF "text" (.str z) [])))))) lk = some (.lst []) := by rw [upd_ne nk.symm, upd_ne nkb]; exact k3
    have b4 : (upd (upd H3 lb (.lst [])) p (.ins CR dx (putF "bounds" (.ref lb) (putF "kinds" (.ref lk) (putF "at" (.int 0) (putF "text" (.str z) [])))))) lb = some (.lst []) := by rw [upd_ne nb.symm, upd_same]
    generalize (upd (upd H3 lb (.lst [])) p (.ins CR dx (putF "bounds" (.ref lb) (putF "kinds" (.ref lk) (putF "at" (.int 0) (putF "text" (.str z) [])))))) = H4 at s4 e4 k4 b4 ⊢
    refine ⟨Nat.zero_le _, fun ll hll => ?_⟩
    have nl : p ≠ ll := ne_of_none e4 hll
    have nkl : lk ≠ ll := ne_of_none k4 hll
    have nbl : lb ≠ ll := ne_of_none b4 hll
    have l0 : H0 ll = none := s4.free hll
    refine ⟨_, rfl, p, CR, dx, _, rfl, (by rw [upd_ne nl]; exact e4), T.c_R, T.a_R_links, by show 4 < 1000; decide, ?_⟩
    have s5 := Same.put (p := p) (o := .ins CR dx (putF "links" (.ref ll) (putF "bounds" (.ref lb) (putF "kinds" (.ref lk) (putF "at" (.int 0) (putF "text" (.str z) [])))))) (Same.add (o := .lst []) s4 hll) p0
    have e5 : (upd (upd H4 ll (.lst [])) p (.ins CR dx (putF "links" (.ref ll) (putF "bounds" (.ref lb) (putF "kinds" (.ref lk) (putF "at" (.int 0) (putF "text" (.str z) []))))))) p = some (.ins CR dx (putF "links" (.ref ll) (putF "bounds" (.ref lb) (putF "kinds" (.ref lk) (putF "at" (.int 0) (putF "text" (.str z) [])))))) := upd_same
    have k5 : (upd (upd H4 ll (.lst [])) p (.ins CR dx (putF "links" (.ref ll) (putF "bounds" (.ref lb) (putF "kinds" (.ref lk) (putF "at" (.int 0) (putF "text" (.str z) []))))))) lk = some (.lst []) := by rw [upd_ne nk.symm, upd_ne nkl]; exact k4
    have b5 : (upd (upd H4 ll (.lst [])) p (.ins CR dx (putF "links" (.ref ll) (putF "bounds" (.ref lb) (putF "kinds" (.ref lk) (putF "at" (.int 0) (putF "text" (.str z) []))))))) lb = some (.lst []) := by rw [upd_ne nb.symm, upd_ne nbl]; exact b4
    have l5 : (upd (upd H4 ll (.lst [])) p (.ins CR dx (putF "links" (.ref ll) (putF "bounds" (.ref lb) (putF "kinds" (.ref lk) (putF "at" (.int 0) (putF "text" (.str z) []))))))) ll = some (.lst []) := by rw [upd_ne nl.symm, upd_same]
    generalize (upd (upd H4 ll (.lst [])) p (.ins CR dx (putF "links" (.ref ll) (putF "bounds" (.ref lb) (putF "kinds" (.ref lk) (putF "at" (.int 0) (putF "text" (.str z) []))))))) = H5 at s5 e5 k5 b5 l5 ⊢
    refine ⟨Nat.zero_le _, fun lg hlg => ?_⟩
    have ng : p ≠ lg := ne_of_none e5 hlg
    have nkg : lk ≠ lg := ne_of_none k5 hlg
    have nbg : lb ≠ lg := ne_of_none b5 hlg
    have nlg : ll ≠ lg := ne_of_none l5 hlg
    have g0 : H0 lg = none := s5.free hlg
    refine ⟨_, rfl, p, CR, dx, _, rfl, (by rw [upd_ne ng]; exact e5), T.c_R, T.a_R_groups, by show 5 < 1000; decide, ?_⟩
    refine k _ lk lb ll lg ⟨Same.put (Same.add s5 hlg) p0, ?_, ?_, upd_same, ?_, ?_, ⟨[], ?_, .nil⟩, ?_, .nil⟩
    · unfold muts
      simp only [List.map_nil, List.nodup_cons, List.mem_cons, List.not_mem_nil, or_false, not_or, not_false_eq_true, List.nodup_nil, and_true]
      exact ⟨⟨nk, nb, nl, ng⟩, ⟨nkb, nkl, nkg⟩, ⟨nbl, nbg⟩, nlg⟩
    · intro a ha
      unfold muts at ha
      simp only [List.map_nil, List.mem_cons, List.not_mem_nil, or_false] at ha
      rcases ha with rfl | rfl | rfl | rfl | rfl
      · exact p0
      · exact k0
      · exact b0
      · exact l0
      · exact g0
    · rw [upd_ne nk.symm, upd_ne nkg]; exact k5
    · rw [upd_ne nb.symm, upd_ne nbg]; exact b5
    · rw [upd_ne nl.symm, upd_ne nlg]; exact l5
    · rw [upd_ne ng.symm, upd_same]; rfl
def spSign (CR : Addr) : Sp := fun vs H Q _ => ∃ (p dx : Addr) (z : Str) (i : Nat) (lk lb ll lg : Addr), vs = [.ref p] ∧ H p = some (.ins CR dx (rfs z i lk lb ll lg)) ∧ z.length ≤ sizeLine ∧ Q (.str (sgnOf (z.cps.toList.drop i))) H
theorem m_sign (T : Txt K w mg CG CR CY CS dI dO dT dC) : C8.Met P w K mg base 1 CR "sign" (spSign CR) [] := by
  refine met_of T.c_R T.d_R_sign b_R_sign sc_R_sign (fun vs H Q E h => ?_) (fun f cdv A outer s H vs Q E hr h => ?_)
  · obtain ⟨_, _, _, _, _, _, _, _, rfl, _⟩ := h
    rfl
  · obtain ⟨p, dx, z, i, lk, lb, ll, lg, rfl, hp, hz, k⟩ := h
    refine ⟨_, pss_one (ps_ret (pe_slice sl_str (pe_fld (pv 0) rfl) (po_some (pe_fld (pv 0) rfl)) (po_some (pe_op op_add (pe_fld (pv 0) rfl) pe_int)))), ?_⟩
    refine ⟨_, rfl, p, CR, dx, _, _, rfl, hp, T.c_R, T.a_R_text, rfl, _, rfl, p, CR, dx, _, _, rfl, hp, T.c_R, T.a_R_at, rfl, _, rfl, _, rfl, p, CR, dx, _, _, rfl, hp, T.c_R, T.a_R_at, rfl, _, _, rfl, rfl, _, rfl, z, rfl, hz, ?_⟩
    show Q (.str (cutS z (some ((i : Nat) : Int)) (some (((i : Nat) : Int) + 1)))) H
    rw [sgn_cut]
    exact k
end
end YW
namespace YW
open PySem L2
def RestOk (r : List Nat) : Prop := r = [] ∨ ∃ c cs, r = c :: cs ∧ (c = 32 ∨ c = 41 ∨ c = 93)
theorem bounds_list : ("123456" : Str).cps.toList = [49, 50, 51, 52, 53, 54] := by decide +kernel
theorem kinds_list : ("sqdio" : Str).cps.toList = [115, 113, 100, 105, 111] := by decide +kernel
theorem int_dg {b : Nat} (h0 : b ≠ 0) (h : b ≤ 4) : PySem.intText? ⟨#[48 + b]⟩ = some ((b : Nat) : Int) := by
  have : b = 1 ∨ b = 2 ∨ b = 3 ∨ b = 4 := by omega
  rcases this with rfl | rfl | rfl | rfl <;> decide +kernel
theorem drop_more {l a r : List Nat} {i : Nat} (h : l.drop i = a ++ r) : l.drop (i + a.length) = r := by
  rw [← List.drop_drop, h, List.drop_left]
theorem one_emp (c : Nat) : (V.str ⟨#[c]⟩ ≠ V.str "") := by
  rw [emp_eq]
  intro q
  injection q with q
  have := congrArg (fun x : Str => x.cps.size) q
  simp at this
section
variable {P : Program} {w : World} {K : PySem.W.Frag} {mg : Str → Option Value} {base : Heap} {CG CR CY CS dI dO dT dC : Addr}
def spDevice (CR CG : Addr) : Sp := fun vs H Q _ => ∃ (H0 : Hp) (p : Addr) (z : Str) (i : Nat) (ks : List YM.Kd) (bs : List Nat) (lks : List (Int × Int)) (fs : List YM.Fr) (gs : List GA) (dx lk lb ll lg : Addr) (k : YM.Kd) (b : Nat) (r : List Nat), vs = [.ref p] ∧
  RdA CR CG H0 H p z i ks bs lks fs gs dx lk lb ll lg ∧ z.length ≤ 100 ∧ ks.length ≤ 3 ∧ bs.length ≤ 3 ∧ z.cps.toList.drop i = YM.told (.dev k b) ++ r ∧ RestOk r ∧ b ≤ 4 ∧
  ∀ v H' i', RdA CR CG H0 H' p z i' (ks ++ [k]) (bs ++ [b]) lks fs gs dx lk lb ll lg → z.cps.toList.drop i' = r → YV (muts p lk lb ll lg gs) H' v [ks.length] [ks.length] → Q v H'
theorem m_device (T : Txt K w mg CG CR CY CS dI dO dT dC) : C8.Met P w K mg base 2 CR "device" (spDevice CR CG) [] := by
  refine met_of T.c_R T.d_R_device b_R_device sc_R_device (fun vs H Q E h => ?_) (fun f cdv A outer s H vs Q E hr h => ?_)
  · obtain ⟨_, _, _, _, _, _, _, _, _, _, _, _, _, _, _, _, _, rfl, _⟩ := h
    rfl
  · obtain ⟨H0, p, z, i, ks, bs, lks, fs, gs, dx, lk, lb, ll, lg, kd, b, r, rfl, S, hz, hk3, hb3, hdrop, hrest, hb4, k⟩ := h
    have nd := sc_R_device.nd
    refine ⟨_, pss_cons (ps_if (pt_cmpR op_eq (pe_callB call_len_seq (by rfl) T.z_len PySem.boot_len (pa_cons (pe_fld (pv 0) rfl) pa_nil)) (C8.pe_gc rfl T.v_MOST_yards) (nomark _)) (pss_one ps_never) pss_nil)
      (pss_cons (ps_set (i := 1) nd rfl (Or.inl rfl) (pe_callB call_len_seq (by rfl) T.z_len PySem.boot_len (pa_cons (pe_fld (pv 0) rfl) pa_nil)))
      (pss_cons (ps_expr (pe_bm PySem.F.plainAttrs_list PySem.F.slot_list_append PySem.F.type_list_append mt_append (pe_fld (pv 0) rfl) (pa_cons (C8.pe_mt0 (m_sign T) hr (by decide) (pv 0)) pa_nil)))
      (pss_cons (ps_fldaug (pv 0) pe_int in_add)
      (pss_cons (ps_set (i := 2) nd rfl (Or.inl rfl) pe_non)
      (C8.pss_cut (ps_if (PW.pt (pw_and (pt_cmpR op_ne (C8.pe_mt0 (m_sign T) hr (by decide) (pv 0)) pe_str (nomark _)) (pw_and1 (pt_cmpR op_in_sign (C8.pe_mt0 (m_sign T) hr (by decide) (pv 0)) (C8.pe_gc rfl T.v_BOUNDS) (by rfl)))))
          (pss_cons (ps_set (i := 2) nd rfl (Or.inl rfl) (pe_callTy call_int_str (by rfl) T.z_int (by decide +kernel) (pa_cons (C8.pe_mt0 (m_sign T) hr (by decide) (pv 0)) pa_nil))) (pss_one (ps_fldaug (pv 0) pe_int in_add))) pss_nil)
      (pss_cons (ps_expr (pe_bm PySem.F.plainAttrs_list PySem.F.slot_list_append PySem.F.type_list_append mt_append (pe_fld (pv 0) rfl) (pa_cons (pv 2) pa_nil)))
      (pss_one (ps_ret (pe_tup (pa_cons (pe_lst (pa_cons (pv 1) pa_nil)) (pa_cons (pe_lst (pa_cons (pv 1) pa_nil)) pa_nil))))))))))), ?_⟩
    have hzl : z.length ≤ sizeLine := Nat.le_trans hz (by decide)
    have hkl : (ks.map kdV).length = ks.length := List.length_map ..
    have hbl : (bs.map bdV).length = bs.length := List.length_map ..
    refine ⟨_, rfl, p, CR, dx, _, _, rfl, S.hp, T.c_R, T.a_R_kinds, rfl, lk, _, rfl, .inl (SqL.of S.hk), rfl, _, rfl, ?_⟩
    rw [decide_eq_false (by intro q; injection q with q; omega)]
    refine iteF ?_
    refine ⟨_, rfl, p, CR, dx, _, _, rfl, S.hp, T.c_R, T.a_R_kinds, rfl, lk, _, rfl, .inl (SqL.of S.hk), ?_⟩
    have hc0 : sgnOf (z.cps.toList.drop i) = kdS kd := by
      rw [hdrop, kd_eq]
      rfl
    refine ⟨_, rfl, p, CR, dx, _, _, rfl, S.hp, T.c_R, T.a_R_kinds, rfl, .inl ⟨rfl, _, SqL.of S.hk⟩, ?_⟩
    refine ⟨_, rfl, p, dx, _, rfl, S.hp, rfl, p, dx, z, i, lk, lb, ll, lg, rfl, S.hp, hzl, ?_⟩
    rw [hc0]
    refine ⟨lk, _, _, rfl, rfl, S.hk, Nat.lt_of_le_of_lt (show (ks.map kdV).length ≤ 3 by omega) (by decide), ?_⟩
    have S1 := S.addK kd
    refine ⟨_, rfl, p, CR, dx, _, _, rfl, S1.hp, T.c_R, T.a_R_at, rfl, _, _, rfl, rfl, _, _, S1.hp, by show 6 < 1000; decide, ?_⟩
    have S2 : RdA CR CG H0 (upd (upd H lk (.lst (ks.map kdV ++ [.str (kdS kd)]))) p (.ins CR dx (putF "at" (.int (((i : Nat) : Int) + 1)) (rfs z i lk lb ll lg)))) p z (i + 1) (ks ++ [kd]) bs lks fs gs dx lk lb ll lg := S1.setAt (i + 1)
    generalize (upd (upd H lk (.lst (ks.map kdV ++ [.str (kdS kd)]))) p (.ins CR dx (putF "at" (.int (((i : Nat) : Int) + 1)) (rfs z i lk lb ll lg)))) = H2 at S2 ⊢
    have hd1 : z.cps.toList.drop (i + 1) = YM.dgC b ++ r := drop_more (a := [YM.kdC kd]) hdrop
    refine ⟨fun σ' H' => ∃ i', σ' = [some (.ref p), some (.int ((ks.length : Nat) : Int)), some (bdV b)] ∧ RdA CR CG H0 H' p z i' (ks ++ [kd]) bs lks fs gs dx lk lb ll lg ∧ z.cps.toList.drop i' = r, ?_, ?_⟩
    · refine ⟨_, rfl, p, dx, _, rfl, S2.hp, rfl, p, dx, z, i + 1, lk, lb, ll, lg, rfl, S2.hp, hzl, rfl, _, rfl, ?_⟩
      rw [hd1]
      by_cases h0 : b = 0
      · subst h0
        have stay : ∀ H', RdA CR CG H0 H' p z (i + 1) (ks ++ [kd]) bs lks fs gs dx lk lb ll lg → ∃ i', [some (V.ref p), some (.int (((ks.map kdV).length : Nat) : Int)), some .non] = [some (.ref p), some (.int ((ks.length : Nat) : Int)), some (bdV 0)] ∧ RdA CR CG H0 H' p z i' (ks ++ [kd]) bs lks fs gs dx lk lb ll lg ∧ z.cps.toList.drop i' = r := fun H' S' => ⟨i + 1, by rw [hkl]; rfl, S', by rw [hd1]; rfl⟩
        rcases hrest with rfl | ⟨c, cs, rfl, hc⟩
        · rw [show decide (V.str (sgnOf (YM.dgC 0 ++ ([] : List Nat))) = V.str "") = true by decide +kernel]
          exact iteF (stay _ S2)
        · rw [show decide (V.str (sgnOf (YM.dgC 0 ++ c :: cs)) = V.str "") = false from decide_eq_false (one_emp c)]
          refine iteT ?_
          refine ⟨_, rfl, p, dx, _, rfl, S2.hp, rfl, p, dx, z, i + 1, lk, lb, ll, lg, rfl, S2.hp, hzl, ?_⟩
          rw [hd1]
          refine ⟨c, _, rfl, rfl, _, rfl, ?_⟩
          rw [bounds_list, decide_eq_false (by simp; omega)]
          exact iteF (stay _ S2)
      · have ed : YM.dgC b = [48 + b] := by unfold YM.dgC; rw [if_neg h0]
        rw [ed]
        rw [show decide (V.str (sgnOf ([48 + b] ++ r)) = V.str "") = false from decide_eq_false (one_emp (48 + b))]
        refine iteT ?_
        refine ⟨_, rfl, p, dx, _, rfl, S2.hp, rfl, p, dx, z, i + 1, lk, lb, ll, lg, rfl, S2.hp, hzl, ?_⟩
        rw [hd1, ed]
        refine ⟨48 + b, _, rfl, rfl, _, rfl, ?_⟩
        rw [bounds_list, decide_eq_true (by simp; omega)]
        refine iteT ?_
        refine ⟨_, rfl, p, dx, _, rfl, S2.hp, rfl, p, dx, z, i + 1, lk, lb, ll, lg, rfl, S2.hp, hzl, ?_⟩
        rw [hd1, ed]
        refine ⟨⟨#[48 + b]⟩, ((b : Nat) : Int), rfl, int_dg h0 hb4, by show 1 ≤ 640; decide, ?_⟩
        refine ⟨_, rfl, p, CR, dx, _, _, rfl, S2.hp, T.c_R, T.a_R_at, rfl, _, _, rfl, rfl, _, _, S2.hp, by show 6 < 1000; decide, ?_⟩
        refine ⟨i + 1 + 1, ?_, S2.setAt (i + 1 + 1), ?_⟩
        · rw [hkl, show bdV b = .int ((b : Nat) : Int) by unfold bdV; rw [if_neg h0]]
          rfl
        · rw [ed] at hd1
          exact drop_more (a := [48 + b]) hd1
    · rintro σ' H' ⟨i', rfl, S3, hd3⟩
      refine ⟨_, rfl, p, CR, dx, _, _, rfl, S3.hp, T.c_R, T.a_R_bounds, rfl, .inl ⟨rfl, _, SqL.of S3.hb⟩, _, rfl, lb, _, _, rfl, rfl, S3.hb, Nat.lt_of_le_of_lt (show (bs.map bdV).length ≤ 3 by omega) (by decide), ?_⟩
      have S4 := S3.addB b
      refine ⟨_, rfl, by show 1 ≤ sizeLine; decide, fun e he => ?_⟩
      refine ⟨_, rfl, by show 1 ≤ sizeLine; decide, fun x hx => ?_⟩
      refine ⟨by show 2 ≤ sizeLine; decide, fun t ht => ?_⟩
      have nex : e ≠ x := ne_of_none upd_same hx
      generalize hH4 : upd H' lb (.lst (bs.map bdV ++ [bdV b])) = H4 at S4 he hx ht ⊢
      have S5 := ((S4.grow (Same.new (o := .lst [.int ((ks.length : Nat) : Int)]) he)).grow (Same.new (o := .lst [.int ((ks.length : Nat) : Int)]) hx)).grow (Same.new (o := .tup [.ref e, .ref x]) ht)
      have e1 : (upd (upd H4 e (.lst [.int ((ks.length : Nat) : Int)])) x (.lst [.int ((ks.length : Nat) : Int)])) e = some (.lst [.int ((ks.length : Nat) : Int)]) := by rw [upd_ne nex, upd_same]
      have x1 : (upd (upd H4 e (.lst [.int ((ks.length : Nat) : Int)])) x (.lst [.int ((ks.length : Nat) : Int)])) x = some (.lst [.int ((ks.length : Nat) : Int)]) := upd_same
      have hnm : ∀ a, a ∈ muts p lk lb ll lg gs → H4 a ≠ none := fun a ha q => S4.some_ a ha q
      refine k _ _ i' S5 hd3 ⟨t, e, x, rfl, upd_same, ?_, ?_, fun q => hnm _ q he, fun q => hnm _ q ?_⟩
      · rw [upd_ne (ne_of_none e1 ht)]; exact e1
      · rw [upd_ne (ne_of_none x1 ht)]; exact x1
      · rw [upd_ne nex.symm] at hx; exact hx
end
end YW
namespace YW
open PySem L2
def LoopAt (CR CG : Addr) (H0 H : Hp) (p : Addr) (z : Str) (tot t : YM.Tr) (fs : List YM.Fr) (gs : List GA) (dx lk lb ll lg : Addr) : Prop :=
  ∃ i, RdA CR CG H0 H p z i (YM.kdF fs) (YM.bdF fs) (YM.lkF fs) fs gs dx lk lb ll lg ∧ z.cps.toList.drop i = YM.told t ++ YM.restF fs ∧ YM.plugT t fs = tot ∧ YM.FrOk fs
def ClosAt (CR CG : Addr) (H0 H : Hp) (p : Addr) (z : Str) (tot t : YM.Tr) (fs : List YM.Fr) (gs : List GA) (dx lk lb ll lg : Addr) (v : V) : Prop :=
  ∃ i, RdA CR CG H0 H p z i (YM.kdF fs ++ YM.kds t) (YM.bdF fs ++ YM.bds t) (YM.lkF fs ++ YM.lnk t (YM.szF fs)) fs gs dx lk lb ll lg ∧ z.cps.toList.drop i = YM.restF fs ∧ YM.plugT t fs = tot ∧ YM.FrOk fs ∧
    YV (muts p lk lb ll lg gs) H v (YM.ent t (YM.szF fs)) (YM.ext t (YM.szF fs))
theorem rest_ok (fs : List YM.Fr) : RestOk (YM.restF fs) := by
  cases fs with
  | nil => exact .inl rfl
  | cons fr fs =>
    cases fr with
    | lft sq r => exact .inr ⟨_, _, rfl, .inl rfl⟩
    | rgt sq l f => exact .inr ⟨_, _, rfl, by cases sq <;> simp [YM.clC]⟩
theorem bdF_len : ∀ fs : List YM.Fr, (YM.bdF fs).length = YM.szF fs
  | [] => rfl
  | .lft _ _ :: fs => bdF_len fs
  | .rgt _ l _ :: fs => by simp [YM.bdF, YM.szF, bdF_len fs, YM.bds_len]
theorem told_node (sq : Bool) (l r : YM.Tr) (fs : List YM.Fr) : YM.told (.node sq l r) ++ YM.restF fs = [YM.opC sq] ++ (YM.told l ++ YM.restF (.lft sq r :: fs)) := by simp [YM.told, YM.restF]
section
variable {P : Program} {w : World} {K : PySem.W.Frag} {mg : Str → Option Value} {base : Heap} {CG CR CY CS dI dO dT dC : Addr}
def spFirstDev (CR CG : Addr) : Sp := fun vs H Q _ => ∃ (H0 : Hp) (p : Addr) (z : Str) (tot t : YM.Tr) (fs : List YM.Fr) (gs : List GA) (dx lk lb ll lg : Addr), vs = [.ref p] ∧ LoopAt CR CG H0 H p z tot t fs gs dx lk lb ll lg ∧ z.length ≤ 100 ∧ TrOk tot ∧
  ∀ v H' k b fs' gs', ClosAt CR CG H0 H' p z tot (.dev k b) fs' gs' dx lk lb ll lg v → YM.szF fs' = YM.szF fs → Q v H'
theorem m_first_device (T : Txt K w mg CG CR CY CS dI dO dT dC) : C8.Met P w K mg base 3 CR "first_device" (spFirstDev CR CG) [] := by
  refine met_of T.c_R T.d_R_first_device b_R_first_device sc_R_first_device (fun vs H Q E h => ?_) (fun f cdv A outer s H vs Q E hr h => ?_)
  · obtain ⟨_, _, _, _, _, _, _, _, _, _, _, _, rfl, _⟩ := h
    rfl
  · obtain ⟨H0, p, z, tot, t0, fs0, gs0, dx, lk, lb, ll, lg, rfl, hL, hz, ok, k⟩ := h
    have nd := sc_R_first_device.nd
    obtain ⟨gC, es, m, DC⟩ := T.t_CLOSING
    refine ⟨_, pss_cons (ps_while PassesOwn.never (PW.pt (pw_and (pt_cmpR op_ne (C8.pe_mt0 (m_sign T) hr (by decide) (pv 0)) pe_str (nomark _)) (pw_and1 (pt_cmpR (op_inTab DC) (C8.pe_mt0 (m_sign T) hr (by decide) (pv 0)) (C8.pe_gc rfl (glob_ref gC)) (by rfl)))))
        (pss_cons (ps_if (pt_cmpR op_eq (pe_callB call_len_seq (by rfl) T.z_len PySem.boot_len (pa_cons (pe_fld (pv 0) rfl) pa_nil)) (C8.pe_gc rfl T.v_MOST_yards) (nomark _)) (pss_one ps_never) pss_nil)
        (pss_cons (ps_expr (pe_bm PySem.F.plainAttrs_list PySem.F.slot_list_append PySem.F.type_list_append mt_append (pe_fld (pv 0) rfl) (pa_cons (C8.pe_mk (k_ginit T) hr (by decide) rfl (pa_cons (C8.pe_mt0 (m_sign T) hr (by decide) (pv 0)) pa_nil)) pa_nil)))
        (pss_one (ps_fldaug (pv 0) pe_int in_add)))))
      (pss_cons (ps_if (PW.pt (pw_or (pt_cmpR op_eq (C8.pe_mt0 (m_sign T) hr (by decide) (pv 0)) pe_str (nomark _)) (pw_or1 (pt_cmpR op_notIn_sign (C8.pe_mt0 (m_sign T) hr (by decide) (pv 0)) (C8.pe_gc rfl T.v_KINDS) (by rfl))))) (pss_one ps_never) pss_nil)
      (pss_one (ps_ret (C8.pe_mt0 (m_device T) hr (by decide) (pv 0))))), ?_⟩
    have hzl : z.length ≤ sizeLine := Nat.le_trans hz (by decide)
    refine ⟨fun m σ H' => ∃ (t : YM.Tr) (fs : List YM.Fr) (gs : List GA), σ = [some (.ref p)] ∧ m = t.size ∧ LoopAt CR CG H0 H' p z tot t fs gs dx lk lb ll lg ∧ YM.szF fs = YM.szF fs0, ⟨_, t0, fs0, gs0, rfl, rfl, hL, rfl⟩, ?_⟩
    rintro m' σ H' ⟨t, fs, gs, rfl, rfl, ⟨i, S, hd, hpl, hfo⟩, hsz⟩
    obtain ⟨c, cs, hc⟩ := told_cons t
    have hsg : sgnOf (z.cps.toList.drop i) = ⟨#[c]⟩ := by rw [hd, hc]; rfl
    obtain ⟨r1, hr1, hs1⟩ := closing_at T c
    have hps := YM.plug_size fs t
    rw [hpl] at hps
    have ok2 := ok.2
    have hfl : fs.length ≤ 2 := by have := YM.size_pos t; omega
    have hgl : gs.length = fs.length := Paired.length S.hf
    refine ⟨_, rfl, p, dx, _, rfl, S.hp, rfl, p, dx, z, i, lk, lb, ll, lg, rfl, S.hp, hzl, rfl, _, rfl, ?_⟩
    rw [hsg, decide_eq_false (one_emp c)]
    refine iteT ?_
    refine ⟨_, rfl, p, dx, _, rfl, S.hp, rfl, p, dx, z, i, lk, lb, ll, lg, rfl, S.hp, hzl, ?_⟩
    rw [hsg]
    refine ⟨_, r1, rfl, rfl, hr1, _, rfl, ?_⟩
    rw [hs1]
    cases t with
    | node sq l r =>
      have e : c = YM.opC sq := by injection hc with h _; exact h.symm
      subst e
      rw [decide_eq_true (show YM.opC sq = 40 ∨ YM.opC sq = 91 by cases sq <;> simp [YM.opC])]
      refine iteT ?_
      refine ⟨fun σ' H2 => ∃ (gs' : List GA), σ' = [some (.ref p)] ∧ LoopAt CR CG H0 H2 p z tot l (.lft sq r :: fs) gs' dx lk lb ll lg, ?_, ?_⟩
      · rintro σ' H2 ⟨gs', rfl, hL'⟩
        exact ⟨l.size, by have := YM.size_pos r; simp only [YM.Tr.size]; omega, l, _, gs', rfl, rfl, hL', hsz⟩
      · refine ⟨_, rfl, p, CR, dx, _, _, rfl, S.hp, T.c_R, T.a_R_groups, rfl, lg, _, rfl, .inl (SqL.of S.hg), rfl, _, rfl, ?_⟩
        rw [decide_eq_false (by rw [List.length_reverse, List.length_map]; intro q; injection q with q; omega)]
        refine iteF ?_
        refine ⟨_, rfl, p, CR, dx, _, _, rfl, S.hp, T.c_R, T.a_R_groups, rfl, .inl ⟨rfl, _, SqL.of S.hg⟩, ?_⟩
        refine ⟨_, rfl, p, dx, _, rfl, S.hp, rfl, p, dx, z, i, lk, lb, ll, lg, rfl, S.hp, hzl, ?_⟩
        rw [hsg]
        refine fun g dxg hg hdxg hne => ?_
        refine ⟨g, dxg, _, rfl, upd_same, fun ly hly hgl' => ⟨rfl, ?_⟩⟩
        have hly1 : upd H' dxg (.own g) ly = none := by rw [upd_ne hgl'.symm] at hly; exact hly
        have hly0 : H' ly = none := by rw [upd_ne (ne_of_none (o := .own g) upd_same hly1).symm] at hly1; exact hly1
        have sN : Same H' (upd (upd (upd (upd (upd H' dxg (.own g)) g (.ins CG dxg [])) g (.ins CG dxg [("sign", .str ⟨#[YM.opC sq]⟩)])) ly (.lst [])) g (.ins CG dxg [("sign", .str ⟨#[YM.opC sq]⟩), ("yards", .ref ly)])) :=
          Same.put (Same.put (Same.put (Same.put (Same.new hdxg) hg) hg) hly0) hg
        have e1 : (upd (upd (upd (upd (upd H' dxg (.own g)) g (.ins CG dxg [])) g (.ins CG dxg [("sign", .str ⟨#[YM.opC sq]⟩)])) ly (.lst [])) g (.ins CG dxg [("sign", .str ⟨#[YM.opC sq]⟩), ("yards", .ref ly)])) g = some (.ins CG dxg (gfs sq ly)) := upd_same
        have e2 : (upd (upd (upd (upd (upd H' dxg (.own g)) g (.ins CG dxg [])) g (.ins CG dxg [("sign", .str ⟨#[YM.opC sq]⟩)])) ly (.lst [])) g (.ins CG dxg [("sign", .str ⟨#[YM.opC sq]⟩), ("yards", .ref ly)])) ly = some (.lst []) := by rw [upd_ne hgl'.symm, upd_same]
        generalize (upd (upd (upd (upd (upd H' dxg (.own g)) g (.ins CG dxg [])) g (.ins CG dxg [("sign", .str ⟨#[YM.opC sq]⟩)])) ly (.lst [])) g (.ins CG dxg [("sign", .str ⟨#[YM.opC sq]⟩), ("yards", .ref ly)])) = H1 at sN e1 e2 ⊢
        refine ⟨lg, _, _, rfl, rfl, sN _ _ S.hg, Nat.lt_of_le_of_lt (show _ ≤ 2 by rw [List.length_reverse, List.length_map]; omega) (by decide), ?_⟩
        have S1 := S.push (g := (g, dxg, ly)) (sq := sq) (r := r) sN e1 e2 hg hly0 hgl'
        refine ⟨_, rfl, p, CR, dx, _, _, rfl, S1.hp, T.c_R, T.a_R_at, rfl, _, _, rfl, rfl, _, _, S1.hp, by show 6 < 1000; decide, ?_⟩
        refine ⟨_, rfl, i + 1, S1.setAt (i + 1), ?_, hpl, hfo⟩
        rw [told_node] at hd
        exact drop_more (a := [YM.opC sq]) hd
    | dev kd b =>
      have e : c = YM.kdC kd := by injection hc with h _; exact h.symm
      subst e
      rw [decide_eq_false (show ¬ (YM.kdC kd = 40 ∨ YM.kdC kd = 91) by cases kd <;> simp [YM.kdC])]
      refine iteF ?_
      refine ⟨_, rfl, p, dx, _, rfl, S.hp, rfl, p, dx, z, i, lk, lb, ll, lg, rfl, S.hp, hzl, rfl, _, rfl, ?_⟩
      rw [hsg, decide_eq_false (one_emp _)]
      refine iteF ?_
      refine ⟨_, rfl, p, dx, _, rfl, S.hp, rfl, p, dx, z, i, lk, lb, ll, lg, rfl, S.hp, hzl, ?_⟩
      rw [hsg]
      refine ⟨YM.kdC kd, _, rfl, rfl, _, rfl, ?_⟩
      rw [kinds_list, decide_eq_true (show YM.kdC kd ∈ [115, 113, 100, 105, 111] by cases kd <;> simp [YM.kdC])]
      refine iteF ?_
      have hb4 : b ≤ 4 := YM.plug_bok fs (.dev kd b) (by rw [hpl]; exact ok.1)
      refine ⟨_, rfl, p, dx, _, rfl, S.hp, rfl, H0, p, z, i, _, _, _, fs, gs, dx, lk, lb, ll, lg, kd, b, _, rfl, S, hz, by rw [YM.kdF_len]; omega, by rw [bdF_len]; omega, hd, rest_ok fs, hb4, fun v H2 i' S2 hd2 hv => ?_⟩
      refine k v H2 kd b fs gs ⟨i', ?_, hd2, hpl, hfo, ?_⟩ hsz
      · have e0 : YM.lkF fs ++ YM.lnk (.dev kd b) (YM.szF fs) = YM.lkF fs := List.append_nil _
        rw [e0]
        exact S2
      · rw [YM.kdF_len] at hv
        exact hv
end
end YW
namespace YW
open PySem L2
theorem flat2_take {rs : List (List Nat)} {i : Nat} {r : List Nat} (h : rs[i]? = some r) : (rs.take (i + 1)).flatten = (rs.take i).flatten ++ r := by
  rw [take_succ_get h, List.flatten_append]
  simp
section
variable {M : List Addr} {H H' : Hp} {v1 v2 : V} {e1 x1 e2 x2 : List Nat} {CG g dxg ly : Addr} {sq : Bool}
/-- what joined reads -/
structure JIn (CG : Addr) (M : List Addr) (H : Hp) (g dxg ly : Addr) (sq : Bool) (v1 v2 : V) (e1 x1 e2 x2 : List Nat) : Prop where
  hg : H g = some (.ins CG dxg (gfs sq ly))
  gM : g ∉ M
  hy : H ly = some (.lst [v1, v2])
  yM : ly ∉ M
  h1 : YV M H v1 e1 x1
  h2 : YV M H v2 e2 x2
theorem JIn.same (h : JIn CG M H g dxg ly sq v1 v2 e1 x1 e2 x2) (s : Same H H') : JIn CG M H' g dxg ly sq v1 v2 e1 x1 e2 x2 := ⟨s _ _ h.hg, h.gM, s _ _ h.hy, h.yM, h.h1.same s, h.h2.same s⟩
theorem JIn.put (h : JIn CG M H g dxg ly sq v1 v2 e1 x1 e2 x2) {a : Addr} {u o : HO} (ha : a ∈ M) (hu : H a = some u) (hn : ∀ xs, u ≠ .tup xs) : JIn CG M (upd H a o) g dxg ly sq v1 v2 e1 x1 e2 x2 :=
  ⟨by rw [upd_ne (ne_mem h.gM ha)]; exact h.hg, h.gM, by rw [upd_ne (ne_mem h.yM ha)]; exact h.hy, h.yM, h.h1.put ha hu hn, h.h2.put ha hu hn⟩
end
/-- a comprehension over the two yards of a group, their lists of one side -/
theorem two_flat {K : PySem.W.Frag} {H : Hp} {ly L : Addr} {v1 v2 : V} {a1 a2 : Addr} {l1 l2 : List Nat} {te1 : TE} {Qd : Hp → Prop} {i4 i5 : Nat} {σ : L2.St} {vs : List Nat}
    (hy : H ly = some (.lst [v1, v2])) (h1 : H a1 = some (.lst (vN l1))) (h2 : H a2 = some (.lst (vN l2))) (b1 : l1.length ≤ 10) (b2 : l2.length ≤ 10) (hL : H L = none)
    (r1 : ∀ (H' : Hp) (σ' : L2.St) (Q : VK), Same H H' → σ' = (wipe σ vs).set i4 (some v1) → Q (.ref a1) H' → te1 σ' H' Q) (r2 : ∀ (H' : Hp) (σ' : L2.St) (Q : VK), Same H H' → σ' = (wipe σ vs).set i4 (some v2) → Q (.ref a2) H' → te1 σ' H' Q)
    (w4 : ∀ x, wipe ((wipe σ vs).set i4 (some x)) vs = wipe σ vs) (w5 : ∀ x y, wipe ((wipe ((wipe σ vs).set i4 (some x)) [i5]).set i5 (some y)) [i5] = wipe ((wipe σ vs).set i4 (some x)) [i5])
    (l5 : ∀ x y, ((wipe ((wipe σ vs).set i4 (some x)) [i5]).set i5 (some y))[i5]? = some (some y)) (hd : ∀ H', Same H H' → H' L = some (.lst (vN (l1 ++ l2))) → Qd H') :
    ∃ W : Nat → Nat → Hp → Prop, (∃ m, W 0 m (upd H L (.lst []))) ∧ ∀ i m H, W i m H →
      ((Itl K ly).stop i H ∧ Qd H) ∨ ((Itl K ly).go i H ∧ ∃ Nx : Hp → Prop, (∀ H', Nx H' → ∃ m', m' < m ∧ W (i + 1) m' H') ∧ ∀ x H', (Itl K ly).yld i H x H' → gName i4 x (wipe σ vs) H' fun σ2 H2 => wipe σ2 vs = wipe σ vs ∧ tYes σ2 H2 fun b H3 =>
        if b = true then iList K te1 σ2 H3 fun J1 H4 => ∃ W1 : Nat → Nat → Hp → Prop, (∃ m, W1 0 m H4) ∧ ∀ j k H, W1 j k H →
          (J1.stop j H ∧ Nx H) ∨ (J1.go j H ∧ ∃ Nx1 : Hp → Prop, (∀ H', Nx1 H' → ∃ k', k' < k ∧ W1 (j + 1) k' H') ∧ ∀ x H', J1.yld j H x H' → gName i5 x (wipe σ2 [i5]) H' fun σ3 H5 => wipe σ3 [i5] = wipe σ2 [i5] ∧ tYes σ3 H5 fun b H6 =>
            if b = true then tVar i5 σ3 H6 fun y H7 => ∃ acc, H7 L = some (.lst acc) ∧ acc.length < sizeLine ∧ Nx1 (upd H7 L (.lst (acc ++ [y]))) else Nx1 H6)
        else Nx H3) := by
  have hpair : Paired (fun v (p : Addr × List Nat) => (v = v1 ∨ v = v2) ∧ H p.1 = some (.lst (vN p.2)) ∧ ∀ (H' : Hp) (σ' : L2.St) (Q : VK), Same H H' → σ' = (wipe σ vs).set i4 (some v) → Q (.ref p.1) H' → te1 σ' H' Q) [v1, v2] [(a1, l1), (a2, l2)] :=
    .cons ⟨.inl rfl, h1, r1⟩ (.cons ⟨.inr rfl, h2, r2⟩ .nil)
  refine lc2_list (K := K) (a := ly) (xs := [v1, v2]) (fun i H' => Same H H' ∧ H' L = some (.lst (vN (([(a1, l1), (a2, l2)].map (·.2)).take i).flatten))) ⟨Same.new hL, upd_same⟩ (fun i H' _ ⟨e, _⟩ => SqL.of (e _ _ hy)) ?_ ?_
  · rintro i x H4 hi ⟨s4, hL4⟩
    obtain ⟨⟨a, l⟩, hal, _, ha, rd⟩ := Paired.get hpair hi
    have hrr : ([(a1, l1), (a2, l2)].map (·.2))[i]? = some l := by rw [List.getElem?_map, hal]; rfl
    refine ⟨w4 x, tyes_go ?_⟩
    refine rd _ _ _ s4 rfl ⟨a, rfl, ⟨_, SqL.of (s4 _ _ ha)⟩, ?_⟩
    refine lci_list (K := K) (a := a) (xs := vN l) (fun j H' => Same H H' ∧ H' L = some (.lst (vN ((([(a1, l1), (a2, l2)].map (·.2)).take i).flatten ++ l.take j)))) ⟨s4, by rw [List.take_zero, List.append_nil]; exact hL4⟩ (fun j H' _ ⟨e, _⟩ => SqL.of (e _ _ ha)) ?_ ?_
    · rintro j y H5 hj ⟨s5, hL5⟩
      unfold vN at hj
      rw [List.getElem?_map] at hj
      obtain ⟨n', hn', rfl⟩ := Option.map_eq_some_iff.mp hj
      refine ⟨w5 _ _, tyes_go ?_⟩
      refine ⟨_, l5 _ _, _, hL5, ?_, Same.put s5 hL, ?_⟩
      · rw [vN_len]
        have h3 := flat_take hrr j
        have h4 : ([(a1, l1), (a2, l2)].map (·.2)).flatten.length = l1.length + (l2.length + 0) := by simp
        exact Nat.lt_of_le_of_lt (show _ ≤ 20 by omega) (by decide)
      · rw [upd_same, take_succ_get hn', ← List.append_assoc, vN_app (_ ++ l.take j)]
        rfl
    · rintro H5 ⟨s5, hL5⟩
      rw [vN_len, List.take_length] at hL5
      refine ⟨s5, ?_⟩
      rw [hL5, flat2_take hrr]
  · rintro H4 ⟨s4, hL4⟩
    refine hd H4 s4 ?_
    rw [hL4]
    simp
theorem joinL_take {x : Nat} {xs es : List Nat} {i : Nat} (h : xs[i]? = some x) : YM.joinL (xs.take (i + 1)) es = YM.joinL (xs.take i) es ++ es.map fun e => (((x : Nat) : Int), ((e : Nat) : Int)) := by
  unfold YM.joinL
  rw [take_succ_get h, List.flatMap_append]
  simp
section
variable {P : Program} {w : World} {K : PySem.W.Frag} {mg : Str → Option Value} {base : Heap} {CG CR CY CS dI dO dT dC : Addr}
def spJoined (CR CG : Addr) : Sp := fun vs H Q _ => ∃ (H0 : Hp) (p : Addr) (z : Str) (i : Nat) (ks : List YM.Kd) (bs : List Nat) (lks : List (Int × Int)) (fs : List YM.Fr) (gs : List GA) (dx lk lb ll lg g dxg ly : Addr) (sq : Bool) (v1 v2 : V) (e1 x1 e2 x2 : List Nat), vs = [.ref p, .ref g] ∧
  RdA CR CG H0 H p z i ks bs lks fs gs dx lk lb ll lg ∧ JIn CG (muts p lk lb ll lg gs) H g dxg ly sq v1 v2 e1 x1 e2 x2 ∧ e1.length ≤ 3 ∧ x1.length ≤ 3 ∧ e2.length ≤ 3 ∧ x2.length ≤ 3 ∧ lks.length ≤ 100 ∧
  ∀ v H', RdA CR CG H0 H' p z i ks bs (lks ++ if sq then [] else YM.joinL x1 e2) fs gs dx lk lb ll lg → YV (muts p lk lb ll lg gs) H' v (if sq then e1 ++ e2 else e1) (if sq then x1 ++ x2 else x2) → Q v H'
theorem m_joined (T : Txt K w mg CG CR CY CS dI dO dT dC) : C8.Met P w K mg base 1 CR "joined" (spJoined CR CG) [] := by
  refine met_of T.c_R T.d_R_joined b_R_joined sc_R_joined (fun vs H Q E h => ?_) (fun f cdv A outer s H vs Q E hr h => ?_)
  · obtain ⟨_, _, _, _, _, _, _, _, _, _, _, _, _, _, _, _, _, _, _, _, _, _, _, _, rfl, _⟩ := h
    rfl
  · obtain ⟨H0, p, z, i, ks, bs, lks, fs, gs, dx, lk, lb, ll, lg, g, dxg, ly, sq, v1, v2, e1, x1, e2, x2, rfl, S, J, be1, bx1, be2, bx2, blk, k⟩ := h
    have nd := sc_R_joined.nd
    refine ⟨_, pss_cons (ps_if (pt_cmpR op_eq (pe_fld (pv 1) rfl) pe_str (nomark _))
        (pss_cons (ps_setLc2 (i := 3) (own := [("yard", 6), ("entry", 2)]) (g := gName 6) (tt := tYes) (g1 := gName 2) (tt1 := tYes) (vs1 := [2]) (wi1 := iList K (tOp (rIxT K) (tVar 6) (tC (.int 0)))) rfl nd rfl rfl (sw_true rfl rfl rfl (by decide +kernel)) (pi_list (pe_fld (pv 1) rfl))
          (blkOk_by (own := [("yard", 6), ("entry", 2)]) (N := n_R_joined) (sc := C8.fnScope s_R_joined) (by decide +kernel)) (by decide) (fun _ _ _ _ _ => pg_name (i := 6) nd rfl (Or.inl rfl)) (fun _ _ _ _ _ => pts_nil)
          (fun _ _ _ _ _ => pi_list (tl := tOp (rIxT K) (tVar 6) (tC (.int 0))) (pe_ix ix_tup (pv 6) pe_int (fun _ _ => rfl))) (fun _ _ _ _ _ => pg_name (i := 2) nd rfl (Or.inl rfl)) (fun _ _ _ _ _ => pts_nil) (fun _ _ _ _ _ => pv 2))
        (pss_one (ps_ret (pe_tup (pa_cons (pv 3) (pa_cons (pe_lc2 (own := [("yard", 6), ("out", 4)]) (g := gName 6) (tt := tYes) (g1 := gName 4) (tt1 := tYes) (vs1 := [4]) (wi1 := iList K (tOp (rIxT K) (tVar 6) (tC (.int 1)))) rfl nd (pi_list (pe_fld (pv 1) rfl))
          (blkOk_by (own := [("yard", 6), ("out", 4)]) (N := n_R_joined) (sc := C8.fnScope s_R_joined) (by decide +kernel)) (by decide) (fun _ _ _ _ _ => pg_name (i := 6) nd rfl (Or.inl rfl)) (fun _ _ _ _ _ => pts_nil)
          (fun _ _ _ _ _ => pi_list (tl := tOp (rIxT K) (tVar 6) (tC (.int 1))) (pe_ix ix_tup (pv 6) pe_int (fun _ _ => rfl))) (fun _ _ _ _ _ => pg_name (i := 4) nd rfl (Or.inl rfl)) (fun _ _ _ _ _ => pts_nil) (fun _ _ _ _ _ => pv 4)) pa_nil)))))) pss_nil)
      (pss_cons (ps_for PassesOwn.never rfl (pi_range2 (by rfl) T.z_range (pa_cons pe_int (pa_cons (pe_callB call_len_seq (by rfl) T.z_len PySem.boot_len (pa_cons (pe_fld (pv 1) rfl) pa_nil)) pa_nil))) (pg_name (i := 5) nd rfl (Or.inl rfl))
        (pss_one (ps_for PassesOwn.never rfl (pi_list (pe_ix ix_tup (pe_ix ix_list (pe_fld (pv 1) rfl) (pe_op op_sub (pv 5) pe_int) (fun _ _ => rfl)) pe_int (fun _ _ => rfl))) (pg_name (i := 4) nd rfl (Or.inl rfl))
          (pss_one (ps_for PassesOwn.never rfl (pi_list (pe_ix ix_tup (pe_ix ix_list (pe_fld (pv 1) rfl) (pv 5) (fun _ _ => rfl)) pe_int (fun _ _ => rfl))) (pg_name (i := 2) nd rfl (Or.inl rfl))
            (pss_one (ps_expr (pe_bm PySem.F.plainAttrs_list PySem.F.slot_list_append PySem.F.type_list_append mt_append (pe_fld (pv 0) rfl) (pa_cons (pe_tup (pa_cons (pv 4) (pa_cons (pv 2) pa_nil))) pa_nil)))))))))
      (pss_one (ps_ret (pe_tup (pa_cons (pe_ix ix_tup (pe_ix ix_list (pe_fld (pv 1) rfl) pe_int (fun _ _ => rfl)) pe_int (fun _ _ => rfl)) (pa_cons (pe_ix ix_tup (pe_ix ix_list (pe_fld (pv 1) rfl) (pe_un un_neg pe_int) (fun _ _ => rfl)) pe_int (fun _ _ => rfl)) pa_nil)))))), ?_⟩
    have hnm : ∀ a, a ∈ muts p lk lb ll lg gs → H a ≠ none := S.some_
    obtain ⟨t1, a1, c1, rfl, ht1, ha1, hc1, na1, nc1⟩ := id J.h1
    obtain ⟨t2, a2, c2, rfl, ht2, ha2, hc2, na2, nc2⟩ := id J.h2
    refine ⟨_, rfl, g, CG, dxg, _, _, rfl, J.hg, T.c_G, T.a_G_sign, rfl, rfl, _, rfl, ?_⟩
    rw [decV bra_eq]
    cases sq with
    | true =>
      rw [decide_eq_true (show YM.opC true = 91 from rfl)]
      refine iteT ?_
      refine ⟨_, rfl, g, CG, dxg, _, _, rfl, J.hg, T.c_G, T.a_G_yards, rfl, ly, rfl, ⟨_, SqL.of J.hy⟩, fun L hL => ?_⟩
      refine two_flat (K := K) J.hy ha1 ha2 (by omega) (by omega) hL (fun H' σ' Q s e q => ?_) (fun H' σ' Q s e q => ?_) (fun _ => rfl) (fun _ _ => rfl) (fun _ _ => rfl) (fun H1 s1 hL1 => ?_)
      · rw [e]
        exact ⟨_, rfl, t1, _, 0, .ref a1, rfl, rfl, SqT.of (s _ _ ht1), rfl, q⟩
      · rw [e]
        exact ⟨_, rfl, t2, _, 0, .ref a2, rfl, rfl, SqT.of (s _ _ ht2), rfl, q⟩
      · refine ⟨_, rfl, _, rfl, g, CG, dxg, _, _, rfl, s1 _ _ J.hg, T.c_G, T.a_G_yards, rfl, ly, rfl, ⟨_, SqL.of (s1 _ _ J.hy)⟩, fun L2 hL2 => ?_⟩
        refine two_flat (K := K) (s1 _ _ J.hy) (s1 _ _ hc1) (s1 _ _ hc2) (by omega) (by omega) hL2 (fun H' σ' Q s e q => ?_) (fun H' σ' Q s e q => ?_) (fun _ => rfl) (fun _ _ => rfl) (fun _ _ => rfl) (fun H2 s2 hL22 => ?_)
        · rw [e]
          exact ⟨_, rfl, t1, _, 1, .ref c1, rfl, rfl, SqT.of (s _ _ (s1 _ _ ht1)), rfl, q⟩
        · rw [e]
          exact ⟨_, rfl, t2, _, 1, .ref c2, rfl, rfl, SqT.of (s _ _ (s1 _ _ ht2)), rfl, q⟩
        · refine ⟨by show 2 ≤ sizeLine; decide, fun t ht => ?_⟩
          have sN : Same H2 (upd H2 t (.tup [.ref L, .ref L2])) := Same.new ht
          refine k _ _ (by rw [if_pos rfl, List.append_nil]; exact S.grow ((s1.trans s2).trans sN)) ?_
          rw [if_pos rfl, if_pos rfl]
          exact ⟨t, L, L2, rfl, upd_same, sN _ _ (s2 _ _ hL1), sN _ _ hL22, fun q => hnm _ q hL, fun q => hnm _ q (s1.free hL2)⟩
    | false =>
      rw [decide_eq_false (by decide)]
      refine iteF ?_
      refine ⟨_, rfl, g, CG, dxg, _, _, rfl, J.hg, T.c_G, T.a_G_yards, rfl, ly, _, rfl, .inl (SqL.of J.hy), 1, 2, rfl, ⟨by decide, by decide, by decide, by decide⟩, ?_⟩
      refine for_range (lo := 1) (n := 1) (fun r σ H' => ∃ (y2 y4 y5 : Option V), σ = [some (.ref p), some (.ref g), y2, none, y4, y5, none] ∧ RdA CR CG H0 H' p z i ks bs (lks ++ if r = 0 then [] else YM.joinL x1 e2) fs gs dx lk lb ll lg ∧ JIn CG (muts p lk lb ll lg gs) H' g dxg ly false (.ref t1) (.ref t2) e1 x1 e2 x2 ∧
          H' t1 = some (.tup [.ref a1, .ref c1]) ∧ H' t2 = some (.tup [.ref a2, .ref c2]) ∧ H' a1 = some (.lst (vN e1)) ∧ H' c1 = some (.lst (vN x1)) ∧ H' a2 = some (.lst (vN e2)) ∧ H' c2 = some (.lst (vN x2)))
        ⟨none, none, none, rfl, by rw [if_pos rfl, List.append_nil]; exact S, J, ht1, ht2, ha1, hc1, ha2, hc2⟩ ?_ ?_
      · rintro r σ H1 hr1 ⟨y2, y4, y5, rfl, S1, J1, q1, q2, q3, q4, q5, q6⟩
        have er : r = 0 := by omega
        subst er
        rw [if_pos rfl, List.append_nil] at S1
        refine ⟨_, rfl, g, CG, dxg, _, _, rfl, J1.hg, T.c_G, T.a_G_yards, rfl, _, rfl, _, _, rfl, rfl, ly, _, 0, .ref t1, rfl, rfl, SqL.of J1.hy, rfl, t1, _, 1, .ref c1, rfl, rfl, SqT.of q1, rfl, c1, rfl, ⟨_, SqL.of q4⟩, ?_⟩
        refine for_list (K := K) (a := c1) (xs := vN x1) (fun ri σ H' => ∃ (y2 y4 : Option V), σ = [some (.ref p), some (.ref g), y2, none, y4, some (.int 1), none] ∧ RdA CR CG H0 H' p z i ks bs (lks ++ YM.joinL (x1.take ri) e2) fs gs dx lk lb ll lg ∧ JIn CG (muts p lk lb ll lg gs) H' g dxg ly false (.ref t1) (.ref t2) e1 x1 e2 x2 ∧
            H' t1 = some (.tup [.ref a1, .ref c1]) ∧ H' t2 = some (.tup [.ref a2, .ref c2]) ∧ H' a1 = some (.lst (vN e1)) ∧ H' c1 = some (.lst (vN x1)) ∧ H' a2 = some (.lst (vN e2)) ∧ H' c2 = some (.lst (vN x2)))
          ⟨y2, y4, rfl, by rw [List.take_zero]; rw [show YM.joinL [] e2 = [] from rfl, List.append_nil]; exact S1, J1, q1, q2, q3, q4, q5, q6⟩ (fun ri σ H' _ ⟨_, _, _, _, _, _, _, _, e, _⟩ => SqL.of e) ?_ ?_
        · rintro ri x σ H2 hri ⟨y2, y4, rfl, S2, J2, q1, q2, q3, q4, q5, q6⟩
          unfold vN at hri
          rw [List.getElem?_map] at hri
          obtain ⟨xo, hxo, rfl⟩ := Option.map_eq_some_iff.mp hri
          refine ⟨_, rfl, g, CG, dxg, _, _, rfl, J2.hg, T.c_G, T.a_G_yards, rfl, _, rfl, ly, _, 1, .ref t2, rfl, rfl, SqL.of J2.hy, rfl, t2, _, 0, .ref a2, rfl, rfl, SqT.of q2, rfl, a2, rfl, ⟨_, SqL.of q5⟩, ?_⟩
          refine for_list (K := K) (a := a2) (xs := vN e2) (fun rj σ H' => ∃ (y2 : Option V), σ = [some (.ref p), some (.ref g), y2, none, some (.int ((xo : Nat) : Int)), some (.int 1), none] ∧ RdA CR CG H0 H' p z i ks bs ((lks ++ YM.joinL (x1.take ri) e2) ++ (e2.take rj).map fun e => (((xo : Nat) : Int), ((e : Nat) : Int))) fs gs dx lk lb ll lg ∧ JIn CG (muts p lk lb ll lg gs) H' g dxg ly false (.ref t1) (.ref t2) e1 x1 e2 x2 ∧
              H' t1 = some (.tup [.ref a1, .ref c1]) ∧ H' t2 = some (.tup [.ref a2, .ref c2]) ∧ H' a1 = some (.lst (vN e1)) ∧ H' c1 = some (.lst (vN x1)) ∧ H' a2 = some (.lst (vN e2)) ∧ H' c2 = some (.lst (vN x2)))
            ⟨y2, rfl, by rw [List.take_zero, List.map_nil, List.append_nil]; exact S2, J2, q1, q2, q3, q4, q5, q6⟩ (fun rj σ H' _ ⟨_, _, _, _, _, _, _, _, e, _⟩ => SqL.of e) ?_ ?_
          · rintro rj y σ H3 hrj ⟨y2, rfl, S3, J3, q1, q2, q3, q4, q5, q6⟩
            unfold vN at hrj
            rw [List.getElem?_map] at hrj
            obtain ⟨ee, hee, rfl⟩ := Option.map_eq_some_iff.mp hrj
            obtain ⟨ls, hls, hlp⟩ := S3.hl
            refine ⟨_, rfl, p, CR, dx, _, _, rfl, S3.hp, T.c_R, T.a_R_links, rfl, .inl ⟨rfl, _, SqL.of hls⟩, ?_⟩
            refine ⟨_, rfl, _, rfl, by show 2 ≤ sizeLine; decide, fun t ht => ?_⟩
            have sN : Same H3 (upd H3 t (.tup [.int ((xo : Nat) : Int), .int ((ee : Nat) : Int)])) := Same.new ht
            have S4 := S3.grow sN
            have J4 := J3.same sN
            have tl : upd H3 t (.tup [.int ((xo : Nat) : Int), .int ((ee : Nat) : Int)]) t = some (.tup [.int ((xo : Nat) : Int), .int ((ee : Nat) : Int)]) := upd_same
            have hls4 := sN _ _ hls
            have n1 := sN _ _ q1
            have n2 := sN _ _ q2
            have n3 := sN _ _ q3
            have n4 := sN _ _ q4
            have n5 := sN _ _ q5
            have n6 := sN _ _ q6
            generalize (upd H3 t (.tup [.int ((xo : Nat) : Int), .int ((ee : Nat) : Int)])) = H4 at S4 J4 tl hls4 n1 n2 n3 n4 n5 n6 ⊢
            refine ⟨ll, ls, _, rfl, rfl, hls4, ?_, ?_⟩
            · rw [Paired.length hlp]
              rw [List.length_append, List.length_append, List.length_map, List.length_take, YM.joinL_len, List.length_take]
              have : min ri x1.length * e2.length ≤ 3 * 3 := Nat.mul_le_mul (by omega) be2
              exact Nat.lt_of_le_of_lt (show _ ≤ 200 by omega) (by decide)
            · have S5 := S4.addL hls4 (v := .ref t) (l := (((xo : Nat) : Int), ((ee : Nat) : Int))) ⟨t, rfl, tl⟩
              obtain ⟨m1, m2, m3, m4, m5⟩ := S4.mp
              have nt : ∀ xs, HO.lst ls ≠ .tup xs := fun _ q => by cases q
              have kt : KeepT H4 (upd H4 ll (.lst (ls ++ [.ref t]))) := KeepT.put hls4 nt
              refine ⟨_, rfl, ?_, J4.put m4 hls4 nt, kt _ _ n1, kt _ _ n2, ?_, ?_, ?_, ?_⟩
              · rw [take_succ_get hee, List.map_append, ← List.append_assoc]
                exact S5
              · rw [upd_ne (ne_mem na1 m4)]; exact n3
              · rw [upd_ne (ne_mem nc1 m4)]; exact n4
              · rw [upd_ne (ne_mem na2 m4)]; exact n5
              · rw [upd_ne (ne_mem nc2 m4)]; exact n6
          · rintro σ H3 ⟨y2, rfl, S3, J3, q1, q2, q3, q4, q5, q6⟩
            refine ⟨_, _, rfl, ?_, J3, q1, q2, q3, q4, q5, q6⟩
            rw [vN_len, List.take_length] at S3
            rw [joinL_take hxo, ← List.append_assoc]
            exact S3
        · rintro σ H2 ⟨y2, y4, rfl, S2, J2, q1, q2, q3, q4, q5, q6⟩
          refine ⟨_, _, _, rfl, ?_, J2, q1, q2, q3, q4, q5, q6⟩
          rw [vN_len, List.take_length] at S2
          rw [if_neg (by decide)]
          exact S2
      · rintro σ H1 ⟨y2, y4, y5, rfl, S1, J1, q1, q2, q3, q4, q5, q6⟩
        rw [if_neg (by decide)] at S1
        refine ⟨_, rfl, g, CG, dxg, _, _, rfl, J1.hg, T.c_G, T.a_G_yards, rfl, ly, _, 0, .ref t1, rfl, rfl, SqL.of J1.hy, rfl, t1, _, 0, .ref a1, rfl, rfl, SqT.of q1, rfl, ?_⟩
        refine ⟨_, rfl, g, CG, dxg, _, _, rfl, J1.hg, T.c_G, T.a_G_yards, rfl, 1, rfl, ly, _, -1, .ref t2, rfl, rfl, SqL.of J1.hy, rfl, t2, _, 1, .ref c2, rfl, rfl, SqT.of q2, rfl, ?_⟩
        refine ⟨by show 2 ≤ sizeLine; decide, fun t ht => ?_⟩
        have sN : Same H1 (upd H1 t (.tup [.ref a1, .ref c2])) := Same.new ht
        refine k _ _ (by rw [if_neg (by decide)]; exact S1.grow sN) ?_
        rw [if_neg (by decide), if_neg (by decide)]
        exact ⟨t, a1, c2, rfl, upd_same, sN _ _ q3, sN _ _ q6, na1, nc2⟩
end
end YW
namespace YW
open PySem L2
theorem muts_sub {p lk lb ll lg : Addr} {g : GA} {gs : List GA} : ∀ a, a ∈ muts p lk lb ll lg gs → a ∈ muts p lk lb ll lg (g :: gs) := fun a ha => by
  unfold muts at ha ⊢
  simp only [List.mem_cons, List.map_cons] at ha ⊢
  rcases ha with q | q | q | q | q | q
  · exact .inl q
  · exact .inr (.inl q)
  · exact .inr (.inr (.inl q))
  · exact .inr (.inr (.inr (.inl q)))
  · exact .inr (.inr (.inr (.inr (.inl q))))
  · exact .inr (.inr (.inr (.inr (.inr (.inr q)))))
theorem muts_nd {p lk lb ll lg : Addr} {g : GA} {gs : List GA} (h : (muts p lk lb ll lg (g :: gs)).Nodup) : g.2.2 ∉ muts p lk lb ll lg gs := by
  have hp : (muts p lk lb ll lg (g :: gs)).Perm (g.2.2 :: muts p lk lb ll lg gs) := by
    show ([p, lk, lb, ll, lg] ++ g.2.2 :: gs.map (·.2.2)).Perm (g.2.2 :: ([p, lk, lb, ll, lg] ++ gs.map (·.2.2)))
    exact List.perm_middle
  exact (List.nodup_cons.mp (hp.nodup_iff.mp h)).1
section
variable {CR CG : Addr} {H0 H H' : Hp} {p : Addr} {z : Str} {at_ : Nat} {ks : List YM.Kd} {bs : List Nat} {lks : List (Int × Int)} {fs : List YM.Fr} {gs : List GA} {dx lk lb ll lg : Addr}
/-- a second yard is put into the last group, which is taken off -/
theorem RdA.popY {g : GA} {sq : Bool} {l : YM.Tr} {f0 : Nat} (h : RdA CR CG H0 H p z at_ ks bs lks (.rgt sq l f0 :: fs) (g :: gs) dx lk lb ll lg) {v1 v : V} (hly : H g.2.2 = some (.lst [v1])) :
    RdA CR CG H0 (upd (upd H g.2.2 (.lst ([v1] ++ [v]))) lg (.lst (gs.map fun g => V.ref g.1).reverse)) p z at_ ks bs lks fs gs dx lk lb ll lg := by
  obtain ⟨⟨a1, a2, a3, a4⟩, ⟨b1, b2, b3⟩, ⟨c1, c2⟩, d1, e⟩ := h.ne
  obtain ⟨m1, m2, m3, m4, m5⟩ := h.mp
  obtain ⟨ls, l1, l2⟩ := h.hl
  obtain ⟨e1, e2, e3, e4, e5⟩ := e g List.mem_cons_self
  have hm : g.2.2 ∈ muts p lk lb ll lg (g :: gs) := by unfold muts; simp
  have nt1 : ∀ xs, HO.lst [v1] ≠ .tup xs := fun _ q => by cases q
  have nt : ∀ xs, HO.lst (((g :: gs).map fun g => V.ref g.1).reverse) ≠ .tup xs := fun _ q => by cases q
  have hg2 : upd H g.2.2 (.lst ([v1] ++ [v])) lg = some (.lst (((g :: gs).map fun g => V.ref g.1).reverse)) := by rw [upd_ne e5.symm]; exact h.hg
  have k1 : KeepT H (upd H g.2.2 (.lst ([v1] ++ [v]))) := KeepT.put hly nt1
  have k2 : KeepT (upd H g.2.2 (.lst ([v1] ++ [v]))) (upd (upd H g.2.2 (.lst ([v1] ++ [v]))) lg (.lst (gs.map fun g => V.ref g.1).reverse)) := KeepT.put hg2 nt
  have hnd : (muts p lk lb ll lg gs).Nodup := by
    have hp : (muts p lk lb ll lg (g :: gs)).Perm (g.2.2 :: muts p lk lb ll lg gs) := by
      show ([p, lk, lb, ll, lg] ++ g.2.2 :: gs.map (·.2.2)).Perm (g.2.2 :: ([p, lk, lb, ll, lg] ++ gs.map (·.2.2)))
      exact List.perm_middle
    exact (List.nodup_cons.mp (hp.nodup_iff.mp h.nd)).2
  cases h.hf with
  | cons hg hrest =>
    refine ⟨Same.put (Same.put h.same (h.fr _ hm)) (h.fr _ m5), hnd, fun a ha => h.fr a (muts_sub a ha), by rw [upd_ne a4, upd_ne e1.symm]; exact h.hp, by rw [upd_ne b3, upd_ne e2.symm]; exact h.hk, by rw [upd_ne c2, upd_ne e3.symm]; exact h.hb, ⟨ls, by rw [upd_ne d1, upd_ne e4.symm]; exact l1, Paired.mapP l2 fun _ _ q => (q.keep k1).keep k2⟩, upd_same,
      Paired.mapM hrest fun g' fr' hg' q => ?_⟩
    have hne : g'.2.2 ≠ g.2.2 := by
      have := h.nd
      unfold muts at this
      simp only [List.nodup_cons, List.mem_cons, not_or, List.map_cons] at this
      have hn := this.2.2.2.2.2.1
      exact fun q => hn (List.mem_map.mpr ⟨g', hg', q⟩)
    exact ((q.put hm hly nt1 hne).put m5 hg2 nt (e g' (List.mem_cons_of_mem _ hg')).2.2.2.2).more fun a ha => .inl (muts_sub a ha)
end
theorem clS (sq : Bool) : (if sq then ("]" : Str) else ")") = ⟨#[YM.clC sq]⟩ := by cases sq <;> decide +kernel
section
variable {P : Program} {w : World} {K : PySem.W.Frag} {mg : Str → Option Value} {base : Heap} {CG CR CY CS dI dO dT dC : Addr}
theorem closing_of (T : Txt K w mg CG CR CY CS dI dO dT dC) (sq : Bool) : TabStr K dC ⟨#[YM.opC sq]⟩ ⟨#[YM.clC sq]⟩ := by
  cases sq
  · have := T.k_par
    rw [par_eq, rpar_eq] at this
    exact this
  · have := T.k_bra
    rw [bra_eq, rbra_eq] at this
    exact this
def spClosed (CR CG : Addr) : Sp := fun vs H Q _ => ∃ (H0 : Hp) (p : Addr) (z : Str) (tot t : YM.Tr) (fs : List YM.Fr) (gs : List GA) (dx lk lb ll lg : Addr) (v : V), vs = [.ref p, v] ∧ ClosAt CR CG H0 H p z tot t fs gs dx lk lb ll lg v ∧ z.length ≤ 100 ∧ TrOk tot ∧
  ∀ v' H' t' fs' gs', ClosAt CR CG H0 H' p z tot t' fs' gs' dx lk lb ll lg v' → YM.szF fs' + t'.size = YM.szF fs + t.size → (fs' = [] ∨ ∃ sq r fs'', fs' = .lft sq r :: fs'') → Q v' H'
theorem m_closed (T : Txt K w mg CG CR CY CS dI dO dT dC) : C8.Met P w K mg base 2 CR "closed" (spClosed CR CG) [] := by
  refine met_of T.c_R T.d_R_closed b_R_closed sc_R_closed (fun vs H Q E h => ?_) (fun f cdv A outer s H vs Q E hr h => ?_)
  · obtain ⟨_, _, _, _, _, _, _, _, _, _, _, _, _, rfl, _⟩ := h
    rfl
  · obtain ⟨H0, p, z, tot, t0, fs0, gs0, dx, lk, lb, ll, lg, v0, rfl, hC, hz, ok, k⟩ := h
    have nd := sc_R_closed.nd
    obtain ⟨gC, es, m, DC⟩ := T.t_CLOSING
    refine ⟨_, pss_cons (ps_while PassesOwn.never (pt_truth (pe_fld (pv 0) rfl) (by intro _; rfl))
        (pss_cons (ps_set (i := 2) nd rfl (Or.inl rfl) (pe_ix ix_list (pe_fld (pv 0) rfl) (pe_un un_neg pe_int) (fun _ _ => rfl)))
        (pss_cons (ps_if (PW.pt (pw_or (pt_cmpR op_ne (C8.pe_mt0 (m_sign T) hr (by decide) (pv 0)) (pe_ix (ix_tab DC) (C8.pe_gc rfl (glob_ref gC)) (pe_fld (pv 2) rfl) (fun _ _ => rfl)) (nomark _)) (pw_or1 (pt_not (pt_truth (pe_fld (pv 2) rfl) (by intro _; rfl)))))) (pss_one ps_break) pss_nil)
        (pss_cons (ps_expr (pe_bm PySem.F.plainAttrs_list PySem.F.slot_list_append PySem.F.type_list_append mt_append (pe_fld (pv 2) rfl) (pa_cons (pv 1) pa_nil)))
        (pss_cons (ps_expr (pe_bm0 PySem.F.plainAttrs_list PySem.F.slot_list_pop PySem.F.type_list_pop mt_pop (pe_fld (pv 0) rfl)))
        (pss_cons (ps_set (i := 1) nd rfl (Or.inl rfl) (C8.pe_mt (m_joined T) hr (by decide) (pv 0) (pa_cons (pv 2) pa_nil)))
        (pss_one (ps_fldaug (pv 0) pe_int in_add))))))))
      (pss_one (ps_ret (pv 1))), ?_⟩
    have hzl : z.length ≤ sizeLine := Nat.le_trans hz (by decide)
    refine ⟨fun m σ H' => ∃ (t : YM.Tr) (fs : List YM.Fr) (gs : List GA) (v : V) (x2 : Option V), σ = [some (.ref p), some v, x2] ∧ m = fs.length ∧ ClosAt CR CG H0 H' p z tot t fs gs dx lk lb ll lg v ∧ YM.szF fs + t.size = YM.szF fs0 + t0.size, ⟨_, t0, fs0, gs0, v0, none, rfl, rfl, hC, rfl⟩, ?_⟩
    rintro m' σ H1 ⟨t, fs, gs, v, x2, rfl, rfl, ⟨i, S, hd, hpl, hfo, hv⟩, hsz⟩
    have hps := YM.plug_size fs t
    rw [hpl] at hps
    have ok2 := ok.2
    have hgl : gs.length = fs.length := Paired.length S.hf
    refine ⟨_, rfl, p, CR, dx, _, _, rfl, S.hp, T.c_R, T.a_R_groups, rfl, _, .inl ⟨_, SqL.of S.hg, rfl⟩, ?_⟩
    cases fs with
    | nil =>
      have eg : gs = [] := List.eq_nil_of_length_eq_zero hgl
      subst eg
      exact iteF ⟨_, rfl, k v H1 t [] [] ⟨i, S, hd, hpl, hfo, hv⟩ hsz (.inl rfl)⟩
    | cons fr fs =>
      cases gs with
      | nil => simp at hgl
      | cons g gs =>
        obtain ⟨ga, dxg, ly⟩ := g
        have hne : (!((List.map (fun g : GA => V.ref g.1) ((ga, dxg, ly) :: gs)).reverse).isEmpty) = true := by
          rw [List.map_cons, List.reverse_cons]
          cases (List.map (fun g : GA => V.ref g.1) gs).reverse <;> rfl
        rw [hne]
        refine iteT ?_
        have hgv : atI (List.map (fun g : GA => V.ref g.1) ((ga, dxg, ly) :: gs)).reverse (-1) = some (.ref ga) := by
          rw [List.map_cons, List.reverse_cons]
          exact atI_last _ _
        cases id S.hf with
        | cons hfr hrest =>
        obtain ⟨hg1, hgM, hfi⟩ := hfr
        obtain ⟨tk, htk⟩ := closing_of T (sqOf fr)
        have hl2 : fs.length ≤ 1 := by have := YM.size_pos t; simp only [List.length_cons] at hps; omega
        refine ⟨fun σ' H' => ∃ (t' : YM.Tr) (gs' : List GA) (v' : V) (x2 : Option V), σ' = [some (.ref p), some v', x2] ∧ ClosAt CR CG H0 H' p z tot t' fs gs' dx lk lb ll lg v' ∧ YM.szF fs + t'.size = YM.szF fs0 + t0.size, ?_, ?_⟩
        · rintro σ' H' ⟨t', gs', v', x2, rfl, hC', hs'⟩
          exact ⟨fs.length, Nat.lt_succ_self _, t', fs, gs', v', x2, rfl, rfl, hC', hs'⟩
        refine ⟨_, rfl, p, CR, dx, _, _, rfl, S.hp, T.c_R, T.a_R_groups, rfl, 1, rfl, lg, _, _, .ref ga, rfl, rfl, SqL.of S.hg, hgv, ?_⟩
        refine ⟨_, rfl, p, dx, _, rfl, S.hp, rfl, p, dx, z, i, lk, lb, ll, lg, rfl, S.hp, hzl, ?_⟩
        refine ⟨_, rfl, ga, CG, dxg, _, _, rfl, hg1, T.c_G, T.a_G_sign, rfl, ⟨#[YM.opC (sqOf fr)]⟩, _, .str ⟨#[YM.clC (sqOf fr)]⟩, rfl, rfl, htk, ⟨_, rfl⟩, rfl, _, rfl, ?_⟩
        rw [hd]
        cases fr with
        | lft sq r =>
          have e : decide (V.str (sgnOf (YM.restF (.lft sq r :: fs))) = V.str ⟨#[YM.clC (sqOf (.lft sq r))]⟩) = false := by
            show decide (V.str ⟨#[32]⟩ = V.str ⟨#[YM.clC sq]⟩) = false
            cases sq <;> decide +kernel
          rw [e]
          refine iteT (iteT ?_)
          exact ⟨_, rfl, k v H1 t _ _ ⟨i, S, hd, hpl, hfo, hv⟩ hsz (.inr ⟨sq, r, fs, rfl⟩)⟩
        | rgt sq l f0 =>
          have e : decide (V.str (sgnOf (YM.restF (.rgt sq l f0 :: fs))) = V.str ⟨#[YM.clC (sqOf (.rgt sq l f0))]⟩) = true := by
            show decide (V.str ⟨#[YM.clC sq]⟩ = V.str ⟨#[YM.clC sq]⟩) = true
            exact decide_eq_true rfl
          rw [e]
          refine iteF ?_
          obtain ⟨v1, hly, hv1⟩ := hfi
          refine ⟨_, rfl, ga, CG, dxg, _, _, rfl, hg1, T.c_G, T.a_G_yards, rfl, _, .inl ⟨_, SqL.of hly, rfl⟩, ?_⟩
          refine iteF ?_
          -- group.yards.append(yard)
          refine ⟨_, rfl, ga, CG, dxg, _, _, rfl, hg1, T.c_G, T.a_G_yards, rfl, .inl ⟨rfl, _, SqL.of hly⟩, _, rfl, ly, _, _, rfl, rfl, hly, by show 1 < sizeLine; decide, ?_⟩
          have hmem : ly ∈ muts p lk lb ll lg ((ga, dxg, ly) :: gs) := by unfold muts; simp
          have nt1 : ∀ xs, HO.lst [v1] ≠ .tup xs := fun _ q => by cases q
          obtain ⟨⟨n1, n2, n3, n4⟩, _, _, _, nall⟩ := S.ne
          obtain ⟨nn1, nn2, nn3, nn4, nn5⟩ := nall _ List.mem_cons_self
          -- self.groups.pop()
          have S2 := S.popY hly (v := v)
          obtain ⟨m1, m2, m3, m4, m5⟩ := S.mp
          have hsubM : ∀ a, a ∈ muts p lk lb ll lg gs → a ∈ muts p lk lb ll lg ((ga, dxg, ly) :: gs) := muts_sub
          have hp1 : upd H1 ly (.lst ([v1] ++ [v])) p = some (.ins CR dx (rfs z i lk lb ll lg)) := by rw [upd_ne nn1.symm]; exact S.hp
          have hg1' : upd H1 ly (.lst ([v1] ++ [v])) lg = some (.lst ((List.map (fun g : GA => V.ref g.1) ((ga, dxg, ly) :: gs)).reverse)) := by rw [upd_ne nn5.symm]; exact S.hg
          refine ⟨_, rfl, p, CR, dx, _, _, rfl, hp1, T.c_R, T.a_R_groups, rfl, .inl ⟨rfl, _, SqL.of hg1'⟩, lg, _, .ref ga, rfl, rfl, hg1', ?_, ?_⟩
          · rw [List.map_cons, List.reverse_cons, List.length_append, List.length_singleton, Nat.add_sub_cancel]
            simp
          have edl : (List.map (fun g : GA => V.ref g.1) ((ga, dxg, ly) :: gs)).reverse.dropLast = (List.map (fun g : GA => V.ref g.1) gs).reverse := by
            rw [List.map_cons, List.reverse_cons, List.dropLast_concat]
          rw [edl]
          have nt2 : ∀ xs, HO.lst ((List.map (fun g : GA => V.ref g.1) ((ga, dxg, ly) :: gs)).reverse) ≠ .tup xs := fun _ q => by cases q
          have hg2 : upd H1 ly (.lst ([v1] ++ [v])) lg = some (.lst ((List.map (fun g : GA => V.ref g.1) ((ga, dxg, ly) :: gs)).reverse)) := by rw [upd_ne nn5.symm]; exact S.hg
          have J : JIn CG (muts p lk lb ll lg gs) (upd (upd H1 ly (.lst ([v1] ++ [v]))) lg (.lst (List.map (fun g : GA => V.ref g.1) gs).reverse)) ga dxg ly sq v1 v (YM.ent l f0) (YM.ext l f0) (YM.ent t (YM.szF (.rgt sq l f0 :: fs))) (YM.ext t (YM.szF (.rgt sq l f0 :: fs))) := by
            refine ⟨?_, fun q => hgM (hsubM _ q), ?_, ?_, ?_, ?_⟩
            · rw [upd_ne (ne_mem hgM m5), upd_ne (ne_mem hgM hmem)]
              exact hg1
            · rw [upd_ne nn5, upd_same]
              rfl
            · exact muts_nd S.nd
            · exact ((hv1.put hmem hly nt1).put m5 hg2 nt2).more fun a ha => .inl (hsubM a ha)
            · exact ((hv.put hmem hly nt1).put m5 hg2 nt2).more fun a ha => .inl (hsubM a ha)
          generalize (upd (upd H1 ly (.lst ([v1] ++ [v]))) lg (.lst (List.map (fun g : GA => V.ref g.1) gs).reverse)) = H2 at S2 J ⊢
          -- self.joined(group)
          obtain ⟨hf0, hfo'⟩ := hfo
          have hls : (YM.lkF (.rgt sq l f0 :: fs) ++ YM.lnk t (YM.szF (.rgt sq l f0 :: fs))).length ≤ 100 := by
            have h1 := YM.lkF_len (.rgt sq l f0 :: fs)
            have h2 := YM.lnk_len t (YM.szF (.rgt sq l f0 :: fs))
            have h3 := YM.sq9 (n := YM.szF (.rgt sq l f0 :: fs)) (by omega)
            have h4 := YM.sq9 (n := t.size) (by omega)
            rw [List.length_append]
            omega
          have hlz : l.size ≤ 3 := by have : YM.szF (.rgt sq l f0 :: fs) = YM.szF fs + l.size := rfl; omega
          have b1 := YM.ent_len l f0
          have b2 := YM.ext_len l f0
          have b3 := YM.ent_len t (YM.szF (.rgt sq l f0 :: fs))
          have b4 := YM.ext_len t (YM.szF (.rgt sq l f0 :: fs))
          refine ⟨_, rfl, p, dx, _, rfl, S2.hp, rfl, _, rfl, H0, p, z, i, _, _, _, fs, gs, dx, lk, lb, ll, lg, ga, dxg, ly, sq, v1, v, _, _, _, _, rfl, S2, J, by omega, by omega, by omega, by omega, hls, fun v' H3 S3 hv' => ?_⟩
          -- self.at += 1
          refine ⟨_, rfl, p, CR, dx, _, _, rfl, S3.hp, T.c_R, T.a_R_at, rfl, _, _, rfl, rfl, _, _, S3.hp, by show 6 < 1000; decide, ?_⟩
          have nt3 : ∀ xs, HO.ins CR dx (rfs z i lk lb ll lg) ≠ .tup xs := fun _ q => by cases q
          have hps3 : p ∈ muts p lk lb ll lg gs := S3.mp.1
          subst hf0
          have e1 : YM.szF (.rgt sq l (YM.szF fs) :: fs) = YM.szF fs + l.size := rfl
          rw [e1] at hv' S3
          refine ⟨.node sq l t, gs, v', _, rfl, ⟨i + 1, ?_, ?_, hpl, hfo', ?_⟩, ?_⟩
          · have S4 := S3.setAt (i + 1)
            have ek : YM.kdF (.rgt sq l (YM.szF fs) :: fs) ++ YM.kds t = YM.kdF fs ++ YM.kds (.node sq l t) := by simp [YM.kdF, YM.kds]
            have eb : YM.bdF (.rgt sq l (YM.szF fs) :: fs) ++ YM.bds t = YM.bdF fs ++ YM.bds (.node sq l t) := by simp [YM.bdF, YM.bds]
            have el : (YM.lkF (.rgt sq l (YM.szF fs) :: fs) ++ YM.lnk t (YM.szF fs + l.size)) ++ (if sq then [] else YM.joinL (YM.ext l (YM.szF fs)) (YM.ent t (YM.szF fs + l.size))) = YM.lkF fs ++ YM.lnk (.node sq l t) (YM.szF fs) := by simp [YM.lkF, YM.lnk]
            rw [ek, eb, el] at S4
            exact S4
          · exact drop_more (a := [YM.clC sq]) hd
          · have hv4 := hv'.put (o := .ins CR dx (rfs z (i + 1) lk lb ll lg)) hps3 S3.hp nt3
            cases sq <;> exact hv4
          · rw [e1] at hsz
            simp only [YM.Tr.size]
            omega
end
end YW
namespace YW
open PySem L2
theorem Paired.appd {α β : Type} {F : α → β → Prop} : ∀ {l : List α} {r : List β} {l' : List α} {r' : List β}, Paired F l r → Paired F l' r' → Paired F (l ++ l') (r ++ r')
  | _, _, _, _, .nil, h => h
  | _, _, _, _, .cons h t, h' => .cons h (Paired.appd t h')
section
variable {P : Program} {w : World} {K : PySem.W.Frag} {mg : Str → Option Value} {base : Heap} {CG CR CY CS dI dO dT dC : Addr}
def spWhole (CR CG : Addr) : Sp := fun vs H Q _ => ∃ (H0 : Hp) (p : Addr) (z : Str) (tot : YM.Tr) (dx lk lb ll lg : Addr), vs = [.ref p] ∧ LoopAt CR CG H0 H p z tot tot [] [] dx lk lb ll lg ∧ z.length ≤ 100 ∧ TrOk tot ∧
  ∀ v H', ClosAt CR CG H0 H' p z tot tot [] [] dx lk lb ll lg v → Q v H'
theorem m_whole (T : Txt K w mg CG CR CY CS dI dO dT dC) : C8.Met P w K mg base 4 CR "whole" (spWhole CR CG) [] := by
  refine met_of T.c_R T.d_R_whole b_R_whole sc_R_whole (fun vs H Q E h => ?_) (fun f cdv A outer s H vs Q E hr h => ?_)
  · obtain ⟨_, _, _, _, _, _, _, _, _, rfl, _⟩ := h
    rfl
  · obtain ⟨H0, p, z, tot, dx, lk, lb, ll, lg, rfl, hL, hz, ok, k⟩ := h
    have nd := sc_R_whole.nd
    refine ⟨_, pss_one (ps_while PassesOwn.never (pt_val pe_bl)
        (pss_cons (ps_set (i := 1) nd rfl (Or.inl rfl) (C8.pe_mt (m_closed T) hr (by decide) (pv 0) (pa_cons (C8.pe_mt0 (m_first_device T) hr (by decide) (pv 0)) pa_nil)))
        (pss_cons (ps_if (pt_not (pt_truth (pe_fld (pv 0) rfl) (by intro _; rfl))) (pss_cons (ps_if (pt_cmpR op_lt (pe_fld (pv 0) rfl) (pe_callB call_len_str (by rfl) T.z_len PySem.boot_len (pa_cons (pe_fld (pv 0) rfl) pa_nil)) (nomark _)) (pss_one ps_never) pss_nil) (pss_one (ps_ret (pv 1)))) pss_nil)
        (pss_cons (ps_if (pt_cmpR op_ne (C8.pe_mt0 (m_sign T) hr (by decide) (pv 0)) pe_str (nomark _)) (pss_one ps_never) pss_nil)
        (pss_cons (ps_expr (pe_bm PySem.F.plainAttrs_list PySem.F.slot_list_append PySem.F.type_list_append mt_append (pe_fld (pe_ix ix_list (pe_fld (pv 0) rfl) (pe_un un_neg pe_int) (fun _ _ => rfl)) rfl) (pa_cons (pv 1) pa_nil)))
        (pss_one (ps_fldaug (pv 0) pe_int in_add))))))), ?_⟩
    have hzl : z.length ≤ sizeLine := Nat.le_trans hz (by decide)
    have ok2 := ok.2
    refine ⟨fun m σ H' => ∃ (t : YM.Tr) (fs : List YM.Fr) (gs : List GA) (x1 : Option V), σ = [some (.ref p), x1] ∧ m = 4 - YM.szF fs ∧ LoopAt CR CG H0 H' p z tot t fs gs dx lk lb ll lg, ⟨_, tot, [], [], none, rfl, rfl, hL⟩, ?_⟩
    rintro m σ H1 ⟨t, fs, gs, x1, rfl, rfl, hL1⟩
    refine ⟨true, rfl, ?_⟩
    refine iteT ?_
    refine ⟨fun σ' H' => ∃ (t' : YM.Tr) (fs' : List YM.Fr) (gs' : List GA) (x1 : Option V), σ' = [some (.ref p), x1] ∧ LoopAt CR CG H0 H' p z tot t' fs' gs' dx lk lb ll lg ∧ YM.szF fs + 1 ≤ YM.szF fs', ?_, ?_⟩
    · rintro σ' H' ⟨t', fs', gs', x1', rfl, hL', hlt⟩
      refine ⟨4 - YM.szF fs', ?_, t', fs', gs', x1', rfl, rfl, hL'⟩
      obtain ⟨i, _, _, hpl, _⟩ := hL'
      have h := YM.plug_size fs' t'
      rw [hpl] at h
      omega
    obtain ⟨i0, S0, _⟩ := id hL1
    refine ⟨_, rfl, p, dx, _, rfl, S0.hp, rfl, _, rfl, p, dx, _, rfl, S0.hp, rfl, H0, p, z, tot, t, fs, gs, dx, lk, lb, ll, lg, rfl, hL1, hz, ok, fun v H2 kd b fs2 gs2 hC2 hs2 => ?_⟩
    refine ⟨H0, p, z, tot, _, fs2, gs2, dx, lk, lb, ll, lg, v, rfl, hC2, hz, ok, fun v3 H3 t3 fs3 gs3 hC3 hs3 hfs3 => ?_⟩
    obtain ⟨i, S, hd, hpl, hfo, hv⟩ := id hC3
    have hgl : gs3.length = fs3.length := Paired.length S.hf
    refine ⟨_, rfl, p, CR, dx, _, _, rfl, S.hp, T.c_R, T.a_R_groups, rfl, _, .inl ⟨_, SqL.of S.hg, rfl⟩, ?_⟩
    rcases hfs3 with rfl | ⟨sq, r, fs4, rfl⟩
    · have eg : gs3 = [] := List.eq_nil_of_length_eq_zero hgl
      subst eg
      refine iteT ?_
      refine ⟨_, rfl, p, CR, dx, _, _, rfl, S.hp, T.c_R, T.a_R_at, rfl, _, rfl, p, CR, dx, _, _, rfl, S.hp, T.c_R, T.a_R_text, rfl, z, rfl, hzl, _, _, rfl, rfl, _, rfl, ?_⟩
      have hi : z.length ≤ i := by
        have h1 : (z.cps.toList.drop i).length = 0 := by rw [hd]; rfl
        rw [List.length_drop] at h1
        have hl : z.cps.toList.length = z.length := Array.length_toList
        omega
      rw [decide_eq_false (by omega)]
      refine iteF ⟨_, rfl, ?_⟩
      have e : t3 = tot := hpl
      subst e
      exact k v3 H3 hC3
    · cases gs3 with
      | nil => simp at hgl
      | cons g gs4 =>
        obtain ⟨ga, dxg, ly⟩ := g
        have hne : (!((List.map (fun g : GA => V.ref g.1) ((ga, dxg, ly) :: gs4)).reverse).isEmpty) = true := by
          rw [List.map_cons, List.reverse_cons]
          cases (List.map (fun g : GA => V.ref g.1) gs4).reverse <;> rfl
        rw [hne]
        refine iteF ?_
        have hgv : atI (List.map (fun g : GA => V.ref g.1) ((ga, dxg, ly) :: gs4)).reverse (-1) = some (.ref ga) := by
          rw [List.map_cons, List.reverse_cons]
          exact atI_last _ _
        cases id S.hf with
        | cons hfr hrest =>
        obtain ⟨hg1, hgM, hfi⟩ := hfr
        refine ⟨_, rfl, p, dx, _, rfl, S.hp, rfl, p, dx, z, i, lk, lb, ll, lg, rfl, S.hp, hzl, rfl, _, rfl, ?_⟩
        rw [hd, show decide (V.str (sgnOf (YM.restF (.lft sq r :: fs4))) = V.str " ") = true by rw [spc_eq]; exact decide_eq_true rfl]
        refine iteF ?_
        have hly : H3 ly = some (.lst []) := hfi
        refine ⟨_, rfl, p, CR, dx, _, _, rfl, S.hp, T.c_R, T.a_R_groups, rfl, 1, rfl, lg, _, _, .ref ga, rfl, rfl, SqL.of S.hg, hgv, ga, CG, dxg, _, _, rfl, hg1, T.c_G, T.a_G_yards, rfl, .inl ⟨rfl, _, SqL.of hly⟩, _, rfl, ly, _, _, rfl, rfl, hly, by show 0 < sizeLine; decide, ?_⟩
        have S4 := S.addY (g := (ga, dxg, ly)) rfl rfl (l := t3) (f := YM.szF (.lft sq r :: fs4)) hv
        refine ⟨_, rfl, p, CR, dx, _, _, rfl, S4.hp, T.c_R, T.a_R_at, rfl, _, _, rfl, rfl, _, _, S4.hp, by show 6 < 1000; decide, ?_⟩
        refine ⟨r, .rgt sq t3 (YM.szF fs4) :: fs4, _, _, rfl, ⟨i + 1, S4.setAt (i + 1), ?_, hpl, ⟨rfl, hfo⟩⟩, ?_⟩
        · have := drop_more (a := [32]) (r := YM.told r ++ YM.clC sq :: YM.restF fs4) hd
          exact this
        · have e1 : YM.szF (.rgt sq t3 (YM.szF fs4) :: fs4) = YM.szF fs4 + t3.size := rfl
          have e2 : YM.szF (.lft sq r :: fs4) = YM.szF fs4 := rfl
          have e3 : (YM.Tr.dev kd b).size = 1 := rfl
          omega
theorem yard_ok {t : YM.Tr} (h : TrOk t) : YOk (YM.yardOf t) where
  pos := by show 1 ≤ (YM.kds t).length; rw [YM.kds_len]; exact YM.size_pos t
  most := by show (YM.kds t).length ≤ 3; rw [YM.kds_len]; exact h.2
  bl := by show (YM.bds t).length = (YM.kds t).length; rw [YM.kds_len, YM.bds_len]
  lk := (YM.links_ok h.2).1
  few := (YM.links_ok h.2).2
def spYInit (CY : Addr) : Sp := fun vs H Q _ => ∃ (H0 : Hp) (y dy : Addr) (t : YM.Tr), vs = [.ref y, .str (tx t)] ∧ Same H0 H ∧ H0 y = none ∧ H y = some (.ins CY dy []) ∧ TrOk t ∧ ∀ H', Same H0 H' → YardAt CY H' (.ref y) (tx t) (YM.yardOf t) → Q .non H'
theorem k_yinit (T : Txt K w mg CG CR CY CS dI dO dT dC) : C8.Mak P w K mg base 5 "Yard" CY (spYInit CY) [] := by
  refine mak_of T.g_Y T.d_Y_init b_Y_init sc_Y_init (fun vs H Q E h => ?_) (fun f cdv A outer s H vs Q E hr h => ?_)
  · obtain ⟨_, _, _, _, rfl, _⟩ := h
    rfl
  · obtain ⟨H0, y, dy, t, rfl, s0, y0, hy, ok, k⟩ := h
    have nd := sc_Y_init.nd
    refine ⟨_, pss_cons (ps_set (i := 2) nd rfl (Or.inl rfl) (C8.pe_mk (k_rinit T) hr (by decide) rfl (pa_cons (pv 1) pa_nil)))
      (pss_cons (ps_asg (C8.pe_mt0 (m_whole T) hr (by decide) (pv 2)) (pg_tup (by rfl) (pgs_cons (pg_name (i := 3) nd rfl (.inl rfl)) (pgs_cons (pg_name (i := 4) nd rfl (.inl rfl)) pgs_nil))))
      (pss_cons (ps_fld (pv 0) (pv 1) rfl)
      (pss_cons (ps_fld (pv 0) (pe_fld (pv 2) rfl) rfl)
      (pss_cons (ps_fld (pv 0) (pe_fld (pv 2) rfl) rfl)
      (pss_cons (ps_set (i := 5) nd rfl (Or.inl rfl) (pe_op op_cat
        (pe_lc (own := [("entry", 6)]) (g := gName 6) (tt := tYes) rfl nd (pi_list (pv 3)) (blkOk_by (own := [("entry", 6)]) (N := n_Y_init) (sc := C8.fnScope s_Y_init) (by decide +kernel)) (fun _ _ _ _ _ => pg_name (i := 6) nd rfl (Or.inl rfl)) (fun _ _ _ _ _ => pts_nil) (fun _ _ _ _ _ => pe_tup (pa_cons (C8.pe_gc rfl T.v_OUTSIDE) (pa_cons (pv 6) pa_nil))))
        (pe_lc (own := [("out", 7)]) (g := gName 7) (tt := tYes) rfl nd (pi_list (pv 4)) (blkOk_by (own := [("out", 7)]) (N := n_Y_init) (sc := C8.fnScope s_Y_init) (by decide +kernel)) (fun _ _ _ _ _ => pg_name (i := 7) nd rfl (Or.inl rfl)) (fun _ _ _ _ _ => pts_nil) (fun _ _ _ _ _ => pe_tup (pa_cons (pv 7) (pa_cons (C8.pe_gc rfl T.v_OUTSIDE) pa_nil))))))
      (pss_one (ps_fld (pv 0) (pe_callB (cr_sortL (d := 2) (by decide)) (by rfl) T.z_sorted (by decide +kernel) (pa_cons (pe_op op_cat (pe_fld (pv 2) rfl) (pv 5)) pa_nil)) rfl))))))), ?_⟩
    refine ⟨_, rfl, fun p dx hp hdx hne => ?_⟩
    refine ⟨H, p, dx, tx t, rfl, Same.put (Same.new hdx) hp, hp, upd_same, fun H1 lk lb ll lg S => ⟨rfl, ?_⟩⟩
    have hL : LoopAt CR CG H H1 p (tx t) t t [] [] dx lk lb ll lg := ⟨0, S, by show (tx t).cps.toList = _; rw [tx_list]; simp [YM.restF], rfl, trivial⟩
    have hz100 : (tx t).length ≤ 100 := Nat.le_trans (show (YM.told t).length ≤ 12 from ok.len) (by decide)
    refine ⟨_, rfl, p, dx, _, rfl, S.hp, rfl, H, p, tx t, t, dx, lk, lb, ll, lg, rfl, hL, hz100, ok, fun v H2 hC => ?_⟩
    obtain ⟨n, S2, _, _, _, tt, e, x, rfl, ht, he, hx, neM, nxM⟩ := hC
    refine ⟨tt, _, rfl, SqT.of ht, rfl, _, _, rfl, _, _, rfl, rfl, ?_⟩
    have hy2 := S2.same _ _ hy
    obtain ⟨m1, m2, m3, m4, m5⟩ := S2.mp
    have ney : ∀ a, a ∈ muts p lk lb ll lg [] → a ≠ y := fun a ha q => by
      have := S2.fr a ha
      rw [q, hy] at this
      cases this
    have hk2 : H2 lk = some (.lst ((YM.kds t).map kdV)) := S2.hk
    have hb2 : H2 lb = some (.lst ((YM.bds t).map bdV)) := S2.hb
    have hp2 := S2.hp
    obtain ⟨ls, hls, hlp⟩ := S2.hl
    have hlp' : Paired (LinkAt H2) ls (YM.lnk t 0) := hlp
    have s2 : Same H0 H2 := s0.trans S2.same
    have hxe : e ≠ y := ne_of he hy2 (by intro q; cases q)
    have hxx : x ≠ y := ne_of hx hy2 (by intro q; cases q)
    -- the fields of the yard
    refine ⟨_, rfl, _, rfl, y, CY, dy, _, rfl, hy2, T.c_Y, T.a_Y_text, by decide, ?_⟩
    refine ⟨_, rfl, p, CR, dx, _, _, rfl, (by rw [upd_ne (ney p m1)]; exact hp2), T.c_R, T.a_R_kinds, rfl, ?_⟩
    refine ⟨_, rfl, y, CY, dy, _, rfl, upd_same, T.c_Y, T.a_Y_kinds, by show 1 < 1000; decide, ?_⟩
    rw [upd_upd]
    refine ⟨_, rfl, p, CR, dx, _, _, rfl, (by rw [upd_ne (ney p m1)]; exact hp2), T.c_R, T.a_R_bounds, rfl, ?_⟩
    refine ⟨_, rfl, y, CY, dy, _, rfl, upd_same, T.c_Y, T.a_Y_bounds, by show 2 < 1000; decide, ?_⟩
    rw [upd_upd]
    have kt : KeepT H2 (upd H2 y (.ins CY dy (putF "bounds" (.ref lb) (putF "kinds" (.ref lk) (putF "text" (.str (tx t)) []))))) := KeepT.put hy2 (by intro _ q; cases q)
    have s3 : Same H0 (upd H2 y (.ins CY dy (putF "bounds" (.ref lb) (putF "kinds" (.ref lk) (putF "text" (.str (tx t)) []))))) := Same.put s2 y0
    have hy3 : (upd H2 y (.ins CY dy (putF "bounds" (.ref lb) (putF "kinds" (.ref lk) (putF "text" (.str (tx t)) []))))) y = some (.ins CY dy (putF "bounds" (.ref lb) (putF "kinds" (.ref lk) (putF "text" (.str (tx t)) [])))) := upd_same
    have hp3 : (upd H2 y (.ins CY dy (putF "bounds" (.ref lb) (putF "kinds" (.ref lk) (putF "text" (.str (tx t)) []))))) p = some (.ins CR dx (rfs (tx t) n lk lb ll lg)) := by rw [upd_ne (ney p m1)]; exact hp2
    have hk3 : (upd H2 y (.ins CY dy (putF "bounds" (.ref lb) (putF "kinds" (.ref lk) (putF "text" (.str (tx t)) []))))) lk = some (.lst ((YM.kds t).map kdV)) := by rw [upd_ne (ney lk m2)]; exact hk2
    have hb3 : (upd H2 y (.ins CY dy (putF "bounds" (.ref lb) (putF "kinds" (.ref lk) (putF "text" (.str (tx t)) []))))) lb = some (.lst ((YM.bds t).map bdV)) := by rw [upd_ne (ney lb m3)]; exact hb2
    have hl3 : (upd H2 y (.ins CY dy (putF "bounds" (.ref lb) (putF "kinds" (.ref lk) (putF "text" (.str (tx t)) []))))) ll = some (.lst ls) := by rw [upd_ne (ney ll m4)]; exact hls
    have he3 : (upd H2 y (.ins CY dy (putF "bounds" (.ref lb) (putF "kinds" (.ref lk) (putF "text" (.str (tx t)) []))))) e = some (.lst (vN (YM.ent t 0))) := by rw [upd_ne hxe]; exact he
    have hx3 : (upd H2 y (.ins CY dy (putF "bounds" (.ref lb) (putF "kinds" (.ref lk) (putF "text" (.str (tx t)) []))))) x = some (.lst (vN (YM.ext t 0))) := by rw [upd_ne hxx]; exact hx
    have hlp3 : Paired (LinkAt (upd H2 y (.ins CY dy (putF "bounds" (.ref lb) (putF "kinds" (.ref lk) (putF "text" (.str (tx t)) [])))))) ls (YM.lnk t 0) := Paired.mapP hlp' fun _ _ q => q.keep kt
    generalize (upd H2 y (.ins CY dy (putF "bounds" (.ref lb) (putF "kinds" (.ref lk) (putF "text" (.str (tx t)) []))))) = H3 at s3 hy3 hp3 hk3 hb3 hl3 he3 hx3 hlp3 ⊢
    have be := (YM.ent_len t 0).2
    have bx := (YM.ext_len t 0).2
    have ok2 := ok.2
    -- outer
    refine ⟨_, rfl, e, rfl, ⟨_, SqL.of he3⟩, fun L1 hL1 => ?_⟩
    refine lc_list (K := K) (a := e) (xs := vN (YM.ent t 0)) (fun i H' => Acc LinkAt H3 H' L1 (((YM.ent t 0).take i).map fun e => ((-1 : Int), ((e : Nat) : Int)))) ⟨Same.new hL1, hL1, [], upd_same, .nil⟩ (fun i H' _ a => SqL.of (a.1 _ _ he3)) ?_ ?_
    · rintro i xv H4 hi ac
      unfold vN at hi
      rw [List.getElem?_map] at hi
      obtain ⟨en, hen, rfl⟩ := Option.map_eq_some_iff.mp hi
      refine ⟨rfl, tyes_go ?_⟩
      refine ⟨_, rfl, by show 2 ≤ sizeLine; decide, fun t2 ht2 => ?_⟩
      obtain ⟨s4, _, xs, hxs, hpr⟩ := id ac
      have hxs2 : upd H4 t2 (.tup [.int (-1), .int ((en : Nat) : Int)]) L1 = some (.lst xs) := by rw [upd_ne (ne_of_none hxs ht2)]; exact hxs
      refine ⟨xs, hxs2, ?_, ?_⟩
      · rw [Paired.length hpr, List.length_map, List.length_take]
        exact Nat.lt_of_le_of_lt (show _ ≤ 3 by omega) (by decide)
      · rw [take_succ_get hen, List.map_append]
        exact Acc.app keepLink (Acc.new keepLink ac ht2) hxs2 (v := .ref t2) (a := ((-1 : Int), ((en : Nat) : Int))) ⟨t2, rfl, upd_same⟩
    · rintro H4 ac1
      rw [vN_len, List.take_length] at ac1
      refine ⟨_, rfl, x, rfl, ⟨_, SqL.of (ac1.1 _ _ hx3)⟩, fun L2 hL2 => ?_⟩
      refine lc_list (K := K) (a := x) (xs := vN (YM.ext t 0)) (fun i H' => Acc LinkAt H4 H' L2 (((YM.ext t 0).take i).map fun x => (((x : Nat) : Int), (-1 : Int)))) ⟨Same.new hL2, hL2, [], upd_same, .nil⟩ (fun i H' _ a => SqL.of (a.1 _ _ (ac1.1 _ _ hx3))) ?_ ?_
      · rintro i xv H5 hi ac
        unfold vN at hi
        rw [List.getElem?_map] at hi
        obtain ⟨en, hen, rfl⟩ := Option.map_eq_some_iff.mp hi
        refine ⟨rfl, tyes_go ?_⟩
        refine ⟨_, rfl, by show 2 ≤ sizeLine; decide, fun t2 ht2 => ?_⟩
        obtain ⟨s4, _, xs, hxs, hpr⟩ := id ac
        have hxs2 : upd H5 t2 (.tup [.int ((en : Nat) : Int), .int (-1)]) L2 = some (.lst xs) := by rw [upd_ne (ne_of_none hxs ht2)]; exact hxs
        refine ⟨xs, hxs2, ?_, ?_⟩
        · rw [Paired.length hpr, List.length_map, List.length_take]
          exact Nat.lt_of_le_of_lt (show _ ≤ 3 by omega) (by decide)
        · rw [take_succ_get hen, List.map_append]
          exact Acc.app keepLink (Acc.new keepLink ac ht2) hxs2 (v := .ref t2) (a := (((en : Nat) : Int), (-1 : Int))) ⟨t2, rfl, upd_same⟩
      · rintro H5 ac2
        rw [vN_len, List.take_length] at ac2
        obtain ⟨s4, _, xs1, hxs1, hpr1⟩ := ac1
        obtain ⟨s5, _, xs2, hxs2, hpr2⟩ := ac2
        have l1 := Paired.length hpr1
        have l2 := Paired.length hpr2
        rw [List.length_map] at l1 l2
        refine ⟨L1, L2, xs1, xs2, rfl, rfl, s5 _ _ hxs1, hxs2, Nat.le_trans (show _ ≤ 6 by omega) (by decide), fun L3 hL3 => ?_⟩
        have s6 : Same H3 (upd H5 L3 (.lst (xs1 ++ xs2))) := (s4.trans s5).trans (Same.new hL3)
        have hpo : Paired (LinkAt (upd H5 L3 (.lst (xs1 ++ xs2)))) (xs1 ++ xs2) (YM.outerL (YM.ent t 0) (YM.ext t 0)) := by
          refine Paired.appd (Paired.mapP hpr1 fun _ _ q => ?_) (Paired.mapP hpr2 fun _ _ q => q.keep (KeepT.new hL3))
          exact (q.keep (Same.keepT s5)).keep (KeepT.new hL3)
        have hL3e : upd H5 L3 (.lst (xs1 ++ xs2)) L3 = some (.lst (xs1 ++ xs2)) := upd_same
        generalize (upd H5 L3 (.lst (xs1 ++ xs2))) = H6 at s6 hpo hL3e ⊢
        refine ⟨_, rfl, p, CR, dx, _, _, rfl, s6 _ _ hp3, T.c_R, T.a_R_links, rfl, _, rfl, ll, L3, ls, _, rfl, rfl, s6 _ _ hl3, hL3e, ?_, fun L4 hL4 => ?_⟩
        · have h1 := YM.lnk_len t 0
          have h2 := YM.sq9 ok2
          rw [List.length_append, Paired.length hlp3]
          exact Nat.le_trans (show _ ≤ 20 by omega) (by decide)
        have hpa : Paired (LinkAt (upd H6 L4 (.lst (ls ++ (xs1 ++ xs2))))) (ls ++ (xs1 ++ xs2)) (YM.links t) :=
          Paired.appd (Paired.mapP hlp3 fun _ _ q => (q.keep (Same.keepT s6)).keep (KeepT.new hL4)) (Paired.mapP hpo fun _ _ q => q.keep (KeepT.new hL4))
        refine ⟨L4, _, rfl, SqL.of upd_same, fun xv hxv => ?_, fun ys L5 hperm hL5 => ?_⟩
        · obtain ⟨l, hl, tq, rfl, htq⟩ := Paired.mem hpa hxv
          exact ⟨[l.1, l.2], ⟨tq, rfl, SqT.of htq⟩, rfl⟩
        · have s7 : Same H6 (upd (upd H6 L4 (.lst (ls ++ (xs1 ++ xs2)))) L5 (.lst ys)) := (Same.new hL4).trans (Same.new hL5)
          obtain ⟨lks, q1, q2⟩ := Paired.perm hperm hpa
          have hL5e : (upd (upd H6 L4 (.lst (ls ++ (xs1 ++ xs2)))) L5 (.lst ys)) L5 = some (.lst ys) := upd_same
          have q1' : Paired (LinkAt (upd (upd H6 L4 (.lst (ls ++ (xs1 ++ xs2)))) L5 (.lst ys))) ys lks := Paired.mapP q1 fun _ _ q => q.keep (KeepT.new hL5)
          have s8 := s6.trans s7
          generalize (upd (upd H6 L4 (.lst (ls ++ (xs1 ++ xs2)))) L5 (.lst ys)) = H8 at s8 hL5e q1' ⊢
          have hy8 := s8 _ _ hy3
          refine ⟨_, rfl, y, CY, dy, _, rfl, hy8, T.c_Y, T.a_Y_links, by show 3 < 1000; decide, ?_⟩
          have kt8 : KeepT H8 (upd H8 y (.ins CY dy (yfs (tx t) lk lb L5))) := KeepT.put hy8 (by intro _ q; cases q)
          refine k _ (Same.put (s3.trans s8) y0) ⟨y, dy, lk, lb, L5, ys, lks, rfl, upd_same, ?_, ?_, ?_, Paired.mapP q1' fun _ _ q => q.keep kt8, q2, yard_ok ok⟩
          · rw [upd_ne (ney lk m2)]; exact s8 _ _ hk3
          · rw [upd_ne (ney lb m3)]; exact s8 _ _ hb3
          · rw [upd_ne (ne_of hL5e hy8 (by intro q; cases q))]; exact hL5e
end
end YW
namespace YW
open PySem L2
theorem hgt3 {t : YM.Tr} (h : TrOk t) : t.hgt < 3 := by
  have := YM.hgt_size t
  have := h.2
  omega
def NumsT (z : Str) (num : List Nat) : Prop := ∃ t, TrOk t ∧ z = tx t ∧ num = YM.numOf (YM.ordT t 0)
theorem numFrom_set {num : List Nat} {j d : Nat} {ds : List Nat} : YM.numFrom num j (d :: ds) = YM.numFrom (num.set d j) (j + 1) ds := rfl
section
variable {P : Program} {w : World} {K : PySem.W.Frag} {mg : Str → Option Value} {base : Heap} {CG CR CY CS dI dO dT dC : Addr}
def spTurned : Sp := fun vs H Q _ => ∃ t, vs = [.str (tx t)] ∧ TrOk t ∧ ∀ H', Same H H' → Q (.str (tx (YM.turnT t))) H'
theorem c_turned (T : Txt K w mg CG CR CY CS dI dO dT dC) : C8.Cal P w K mg base 7 "turned" spTurned [] := by
  refine cal_of T.d_turned b_turned sc_turned (fun vs H Q E h => ?_) (fun f cdv A outer s H vs Q E hr h => ?_)
  · obtain ⟨_, rfl, _⟩ := h
    rfl
  · obtain ⟨t, rfl, ok, k⟩ := h
    refine ⟨_, pss_cons (ps_expr (C8.pe_mk (k_yinit T) hr (by decide) rfl (pa_cons (pv 0) pa_nil)))
      (pss_one (ps_ret (C8.pe_c (c_turned_part T 3) hr (by decide) rfl (pa_cons (pv 0) pa_nil)))), ?_⟩
    refine ⟨_, rfl, fun y dy hy hdy hne => ?_⟩
    refine ⟨H, y, dy, t, rfl, Same.put (Same.new hdy) hy, hy, upd_same, ok, fun H1 s1 _ => ⟨rfl, ?_⟩⟩
    exact ⟨_, rfl, t, rfl, ok, hgt3 ok, fun H2 s2 => k H2 (s1.trans s2)⟩
theorem c_turned_numbers (T : Txt K w mg CG CR CY CS dI dO dT dC) : C8.Cal P w K mg base 7 "turned_numbers" (spTNums NumsT) [] := by
  refine cal_of T.d_turned_numbers b_turned_numbers sc_turned_numbers (fun vs H Q E h => ?_) (fun f cdv A outer s H vs Q E hr h => ?_)
  · obtain ⟨_, _, rfl, _⟩ := h
    rfl
  · obtain ⟨z, num, rfl, ⟨t, ok, rfl, rfl⟩, k⟩ := h
    have nd := sc_turned_numbers.nd
    refine ⟨_, pss_cons (ps_expr (C8.pe_mk (k_yinit T) hr (by decide) rfl (pa_cons (pv 0) pa_nil)))
      (pss_cons (ps_set (i := 1) nd rfl (Or.inl rfl) (C8.pe_c (c_turned_order T 3) hr (by decide) rfl (pa_cons (pv 0) (pa_cons pe_int pa_nil))))
      (pss_cons (ps_set (i := 2) nd rfl (Or.inl rfl) (pe_op op_rep (pe_lst (pa_cons pe_int pa_nil)) (pe_callB call_len_seq (by rfl) T.z_len PySem.boot_len (pa_cons (pv 1) pa_nil))))
      (pss_cons (ps_for PassesOwn.never rfl (pi_enum (by rfl) T.z_enumerate (pa_cons (pv 1) pa_nil)) (pg_tup (by rfl) (pgs_cons (pg_name (i := 3) nd rfl (.inl rfl)) (pgs_cons (pg_name (i := 4) nd rfl (.inl rfl)) pgs_nil)))
        (pss_one (ps_asg (pv 3) (pg_sub (pv 2) (pv 4) set_list))))
      (pss_one (ps_ret (pv 2)))))), ?_⟩
    refine ⟨_, rfl, fun y dy hy hdy hne => ?_⟩
    refine ⟨H, y, dy, t, rfl, Same.put (Same.new hdy) hy, hy, upd_same, ok, fun H1 s1 _ => ⟨rfl, ?_⟩⟩
    refine ⟨_, rfl, t, 0, rfl, ok, hgt3 ok, fun q H2 s2 hq0 hq => ?_⟩
    have hol : (YM.ordT t 0).length = t.size := YM.ordT_len t 0
    have ok2 := ok.2
    have hord : ∀ (j d : Nat), (YM.ordT t 0)[j]? = some d → d < t.size := fun j d e => by
      have hk : (YM.yardOf t).kinds.length = t.size := YM.kds_len t
      have h1 := ((YM.trn_of ok.2).ordOk j (by rw [hk, ← hol]; exact (List.getElem?_eq_some_iff.mp e).1)).1
      rw [hk, YM.getD_of e] at h1
      exact h1
    refine ⟨by show 1 ≤ sizeLine; decide, fun p0 hp0 => ?_⟩
    have nq0 : q ≠ p0 := ne_of_none hq hp0
    have hq1 : upd H2 p0 (.lst [.int 0]) q = some (.lst (vN (YM.ordT t 0))) := by rw [upd_ne nq0]; exact hq
    refine ⟨_, rfl, q, _, rfl, .inl (SqL.of hq1), ?_⟩
    rw [vN_len, hol]
    refine ⟨p0, ((t.size : Nat) : Int), _, rfl, rfl, upd_same, by omega, by omega, Nat.le_trans (show 1 * ((t.size : Nat) : Int).toNat ≤ 3 by omega) (by decide), fun p1 hp1 => ?_⟩
    have erep : (List.replicate ((t.size : Nat) : Int).toNat [V.int 0]).flatten = vN (List.replicate (YM.ordT t 0).length 0) := by
      rw [hol, Int.toNat_natCast]
      have : ∀ n : Nat, (List.replicate n [V.int 0]).flatten = vN (List.replicate n 0) := fun n => by
        induction n with
        | zero => rfl
        | succ n ih =>
          rw [List.replicate_succ, List.flatten_cons, ih]
          rfl
      exact this _
    rw [erep]
    have nq1 : q ≠ p1 := ne_of_none hq1 hp1
    have s3 : Same H2 (upd (upd H2 p0 (.lst [.int 0])) p1 (.lst (vN (List.replicate (YM.ordT t 0).length 0)))) := (Same.new hp0).trans (Same.new hp1)
    have hq3 := s3 _ _ hq
    have hp3 : (upd (upd H2 p0 (.lst [.int 0])) p1 (.lst (vN (List.replicate (YM.ordT t 0).length 0)))) p1 = some (.lst (vN (List.replicate (YM.ordT t 0).length 0))) := upd_same
    have p1n : H p1 = none := ((s1.trans s2).trans (Same.new hp0)).free hp1
    have s4 : Same H (upd (upd H2 p0 (.lst [.int 0])) p1 (.lst (vN (List.replicate (YM.ordT t 0).length 0)))) := (s1.trans s2).trans s3
    generalize (upd (upd H2 p0 (.lst [.int 0])) p1 (.lst (vN (List.replicate (YM.ordT t 0).length 0)))) = H3 at s4 hq3 hp3 ⊢
    refine ⟨_, rfl, q, _, rfl, SqL.of hq3, ?_⟩
    refine for_enumL (K := K) (a := q) (xs := vN (YM.ordT t 0)) (fun i σ H' => ∃ (x3 x4 : Option V) (num : List Nat), σ = [some (.str (tx t)), some (.ref q), some (.ref p1), x3, x4] ∧ Same H H' ∧ H' q = some (.lst (vN (YM.ordT t 0))) ∧ H' p1 = some (.lst (vN num)) ∧ num.length = t.size ∧
        YM.numFrom num i ((YM.ordT t 0).drop i) = YM.numOf (YM.ordT t 0))
      ⟨none, none, _, rfl, s4, hq3, hp3, by rw [List.length_replicate, hol], rfl⟩ (fun i σ H' _ ⟨_, _, _, _, _, e, _⟩ => SqL.of e) ?_ ?_
    · rintro i xv Tt σ H' hi ⟨x3, x4, num, rfl, s5, hq5, hp5, hnl, hnf⟩ hTt
      unfold vN at hi
      rw [List.getElem?_map] at hi
      obtain ⟨d, hd, rfl⟩ := Option.map_eq_some_iff.mp hi
      have hdl := hord i d hd
      obtain ⟨hi1, hi2⟩ := List.getElem?_eq_some_iff.mp hd
      rw [List.drop_eq_getElem_cons hi1, hi2, numFrom_set] at hnf
      have npT : p1 ≠ Tt := ne_of_none hp5 hTt
      have nqT : q ≠ Tt := ne_of_none hq5 hTt
      have hp6 : upd H' Tt (.tup [.int ((i : Nat) : Int), .int ((d : Nat) : Int)]) p1 = some (.lst (vN num)) := by rw [upd_ne npT]; exact hp5
      refine ⟨Tt, _, rfl, SqT.of upd_same, rfl, _, _, rfl, _, _, rfl, rfl, ?_⟩
      refine ⟨_, rfl, _, rfl, _, rfl, p1, _, _, d, rfl, rfl, hp6, ixN_of (i := ((d : Nat) : Int)) (by omega) (by rw [vN_len, Int.toNat_natCast]; omega), ?_⟩
      refine ⟨_, _, num.set d i, rfl, Same.put (Same.add s5 hTt) p1n, ?_, ?_, by rw [List.length_set]; exact hnl, hnf⟩
      · rw [upd_ne nq1, upd_ne nqT]
        exact hq5
      · rw [upd_same]
        unfold vN
        rw [List.map_set]
    · rintro σ H' ⟨x3, x4, num, rfl, s5, hq5, hp5, hnl, hnf⟩
      rw [vN_len, List.drop_length] at hnf
      have e : num = YM.numOf (YM.ordT t 0) := hnf
      subst e
      exact ⟨_, rfl, k p1 H' s5 p1n hp5⟩
end
end YW
namespace YW
open PySem L2
/-- what stands elsewhere stays -/
def KpX (D : Addr) (H H' : Hp) : Prop := ∀ a u, a ≠ D → H a = some u → H' a = some u
theorem KpX.refl (D : Addr) (H : Hp) : KpX D H H := fun _ _ _ h => h
theorem KpX.trans {D : Addr} {H H1 H2 : Hp} (h : KpX D H H1) (h' : KpX D H1 H2) : KpX D H H2 := fun a u n e => h' a u n (h a u n e)
theorem Same.kpX {D : Addr} {H H' : Hp} (s : Same H H') : KpX D H H' := fun a u _ e => s a u e
theorem KpX.put {D : Addr} {H : Hp} {o : HO} : KpX D H (upd H D o) := fun a u n e => by rw [upd_ne n]; exact e
/-- the list of draws -/
def DrAt (H : Hp) (D : Addr) : Prop := ∃ ns : List Int, H D = some (.lst (ns.map V.int)) ∧ ns.length ≤ 10000
theorem DrAt.same {H H' : Hp} {D : Addr} (s : Same H H') (h : DrAt H D) : DrAt H' D := let ⟨ns, e, l⟩ := h; ⟨ns, s _ _ e, l⟩
section
variable {P : Program} {w : World} {K : PySem.W.Frag} {mg : Str → Option Value} {base : Heap} {CG CR CY CS dI dO dT dC : Addr}
def spNumber : Sp := fun vs H Q _ => ∃ c : Int, vs = [.int c] ∧ Q (.int ((c.natAbs : Nat) : Int)) H
theorem c_law_number (T : Txt K w mg CG CR CY CS dI dO dT dC) : C8.Cal P w K mg base 1 "_law_number" spNumber [] := by
  refine cal_of T.d_law_number b_law_number sc_law_number (fun vs H Q E h => ?_) (fun f cdv A outer s H vs Q E hr h => ?_)
  · obtain ⟨_, rfl, _⟩ := h
    rfl
  · obtain ⟨c, rfl, k⟩ := h
    refine ⟨_, pss_cons (ps_if (pt_cmpR op_lt (pv 0) pe_int (nomark _)) (pss_one (ps_ret (pe_op op_sub pe_int (pv 0)))) pss_nil) (pss_one (ps_ret (pv 0))), ?_⟩
    refine ⟨_, rfl, _, _, rfl, rfl, _, rfl, ?_⟩
    by_cases h : c < 0
    · rw [decide_eq_true h]
      refine iteT ⟨_, rfl, _, _, rfl, rfl, ?_⟩
      rw [show ((c.natAbs : Nat) : Int) = 0 - c by omega] at k
      exact k
    · rw [decide_eq_false h]
      refine iteF ⟨_, rfl, ?_⟩
      rw [show ((c.natAbs : Nat) : Int) = c by omega] at k
      exact k
def spNext (D : Addr) : Sp := fun vs H Q _ => vs = [.ref D] ∧ DrAt H D ∧ ∀ (n : Int) H', DrAt H' D → KpX D H H' → (∀ a, H' a = none → H a = none) → Q (.int n) H'
theorem c_law_next (T : Txt K w mg CG CR CY CS dI dO dT dC) (D : Addr) : C8.Cal P w K mg base 1 "_law_next" (spNext D) [] := by
  refine cal_of T.d_law_next b_law_next sc_law_next (fun vs H Q E h => ?_) (fun f cdv A outer s H vs Q E hr h => ?_)
  · obtain ⟨rfl, _⟩ := h
    rfl
  · obtain ⟨rfl, ⟨ns, hD, hl⟩, k⟩ := h
    refine ⟨_, pss_cons (ps_if (pt_truth (pv 0) (by intro _; rfl)) (pss_one (ps_ret (pe_bm0 PySem.F.plainAttrs_list PySem.F.slot_list_pop PySem.F.type_list_pop mt_pop (pv 0)))) pss_nil) (pss_one (ps_ret pe_int)), ?_⟩
    refine ⟨_, rfl, _, .inl ⟨_, SqL.of hD, rfl⟩, ?_⟩
    by_cases h0 : ns = []
    · subst h0
      exact iteF (k 0 H ⟨[], hD, Nat.zero_le _⟩ (KpX.refl _ _) (fun _ e => e))
    · obtain ⟨r, a, rfl⟩ : ∃ r a, ns = r ++ [a] := ⟨ns.dropLast, ns.getLast h0, (List.dropLast_concat_getLast h0).symm⟩
      have hne : (!((r ++ [a]).map V.int).isEmpty) = true := by
        rw [List.map_append]
        cases r.map V.int <;> rfl
      rw [hne]
      refine iteT ⟨_, rfl, .inl ⟨rfl, _, SqL.of hD⟩, D, _, .int a, rfl, rfl, hD, ?_, ?_⟩
      · rw [List.map_append, List.length_append]
        show (r.map V.int ++ [V.int a])[(r.map V.int).length + 1 - 1]? = _
        simp
      · refine k a _ ⟨r, ?_, by rw [List.length_append, List.length_singleton] at hl; omega⟩ KpX.put (fun b hb => ?_)
        · rw [upd_same, List.map_append]
          show some (HO.lst (r.map V.int ++ [V.int a]).dropLast) = _
          rw [List.dropLast_concat]
        · by_cases e : b = D
          · rw [e, upd_same] at hb
            cases hb
          · rw [upd_ne e] at hb
            exact hb
def spDraws (K : PySem.W.Frag) : Sp := fun vs H Q _ => ∃ (a : Addr) (ns : List Int), vs = [.ref a] ∧ SqL K H a (ns.map V.int) ∧ ns.length ≤ 63 ∧ ∀ D H', Same H H' → H D = none → (∃ ms : List Int, H' D = some (.lst (ms.map V.int)) ∧ ms.length ≤ 10000) → Q (.ref D) H'
theorem c_law_draws (T : Txt K w mg CG CR CY CS dI dO dT dC) : C8.Cal P w K mg base 2 "_law_draws" (spDraws K) [] := by
  refine cal_of T.d_law_draws b_law_draws sc_law_draws (fun vs H Q E h => ?_) (fun f cdv A outer s H vs Q E hr h => ?_)
  · obtain ⟨_, _, rfl, _⟩ := h
    rfl
  · obtain ⟨a, ns, rfl, hS, hl, k⟩ := h
    have nd := sc_law_draws.nd
    refine ⟨_, pss_cons (ps_set (i := 1) nd rfl (Or.inl rfl) (pe_lst pa_nil))
      (pss_cons (ps_for PassesOwn.never rfl (pi_list (pv 0)) (pg_name (i := 2) nd rfl (Or.inl rfl))
        (pss_cons (ps_set (i := 3) nd rfl (Or.inl rfl) (C8.pe_c (c_law_number T) hr (by decide) rfl (pa_cons (pv 2) pa_nil)))
        (pss_one (ps_if (pt_cmpR op_ge (pv 3) pe_int (nomark _))
          (pss_one (ps_for PassesOwn.never rfl (pi_range1 (by rfl) T.z_range (pa_cons pe_int pa_nil)) (pg_name (i := 4) nd rfl (Or.inl rfl))
            (pss_cons (ps_if (pt_cmpR op_eq (pv 3) pe_int (nomark _)) (pss_one ps_break) pss_nil)
            (pss_cons (ps_expr (pe_bm PySem.F.plainAttrs_list PySem.F.slot_list_append PySem.F.type_list_append mt_append (pv 1) (pa_cons (pe_op op_mod (pe_callTy call_int1 (by rfl) T.z_int (by decide +kernel) (pa_cons (pv 3) pa_nil)) pe_int) pa_nil)))
            (pss_one (ps_set (i := 3) nd rfl (Or.inl rfl) (pe_op op_fdiv (pv 3) pe_int)))))))
          (pss_cons (ps_set (i := 5) nd rfl (Or.inl rfl) (pe_op op_mod (pe_callTy call_int1 (by rfl) T.z_int (by decide +kernel) (pa_cons (pe_op op_add (pe_op op_mul (pv 3) pe_int) pe_int) pa_nil)) pe_int))
          (pss_cons (ps_set (i := 6) nd rfl (Or.inl rfl) (pe_op op_mod (pe_callTy call_int1 (by rfl) T.z_int (by decide +kernel) (pa_cons (pe_op op_add (pe_op op_mul (pv 5) pe_int) (pv 3)) pa_nil)) pe_int))
          (pss_one (ps_expr (pe_bm PySem.F.plainAttrs_list PySem.F.slot_list_extend PySem.F.type_list_extend mt_extend (pv 1) (pa_cons (pe_lst
            (pa_cons (pe_op op_mod (pe_callTy call_int1 (by rfl) T.z_int (by decide +kernel) (pa_cons (pv 3) pa_nil)) pe_int)
            (pa_cons (pe_op op_mod (pe_callTy call_int1 (by rfl) T.z_int (by decide +kernel) (pa_cons (pv 5) pa_nil)) pe_int)
            (pa_cons (pe_op op_mod (pe_callTy call_int1 (by rfl) T.z_int (by decide +kernel) (pa_cons (pv 6) pa_nil)) pe_int) pa_nil)))) pa_nil))))))))))
      (pss_one (ps_ret (pv 1)))), ?_⟩
    refine ⟨Nat.zero_le _, fun D hD => ?_⟩
    refine ⟨_, rfl, a, rfl, ⟨_, (Same.new hD).seq hS⟩, ?_⟩
    refine for_list (K := K) (a := a) (xs := ns.map V.int) (fun i σ H' => ∃ (x2 x3 x4 x5 x6 : Option V) (ms : List Int), σ = [some (.ref a), some (.ref D), x2, x3, x4, x5, x6] ∧ Same H H' ∧ H' D = some (.lst (ms.map V.int)) ∧ ms.length ≤ i * 60)
      ⟨none, none, none, none, none, [], rfl, Same.new hD, upd_same, by simp⟩ (fun i σ H' _ ⟨_, _, _, _, _, _, _, s, _, _⟩ => s.seq hS) ?_ ?_
    · rintro i x σ H1 hi ⟨x2, x3, x4, x5, x6, ms, rfl, s1, hD1, hml⟩
      have hil := (List.getElem?_eq_some_iff.mp hi).1
      rw [List.length_map] at hil
      rw [List.getElem?_map] at hi
      obtain ⟨c, hc, rfl⟩ := Option.map_eq_some_iff.mp hi
      refine ⟨_, rfl, c, rfl, ?_⟩
      refine ⟨_, rfl, _, _, rfl, rfl, _, rfl, ?_⟩
      by_cases hbig : ((c.natAbs : Nat) : Int) ≥ 1000000000000000000
      · rw [decide_eq_true hbig]
        refine iteT ?_
        refine ⟨60, rfl, by decide, by decide, ?_⟩
        refine for_range (lo := 0) (n := 60) (fun j σ H' => ∃ (x2 : Option V) (rest : Int) (x4 x5 x6 : Option V) (ms : List Int), σ = [some (.ref a), some (.ref D), x2, some (.int rest), x4, x5, x6] ∧ Same H H' ∧ H' D = some (.lst (ms.map V.int)) ∧ ms.length ≤ i * 60 + j)
          ⟨_, _, x4, x5, x6, ms, rfl, s1, hD1, hml⟩ ?_ ?_
        · rintro j σ H2 hj ⟨x2, rest, x4, x5, x6, ms, rfl, s2, hD2, hml2⟩
          refine ⟨_, rfl, rfl, _, rfl, ?_⟩
          by_cases h0 : rest = 0
          · subst h0
            rw [decide_eq_true rfl]
            refine iteT ?_
            exact ⟨_, _, _, _, _, ms, rfl, s2, hD2, by omega⟩
          · rw [decide_eq_false (by intro q; injection q with q; exact h0 q)]
            refine iteF ?_
            refine ⟨_, rfl, .inl ⟨rfl, _, SqL.of hD2⟩, _, rfl, .inl ⟨_, rfl, _, _, rfl, rfl, (by show (0 : Int) < 1000; decide), ?_⟩⟩
            refine ⟨D, _, _, rfl, rfl, hD2, Nat.lt_of_le_of_lt (show _ ≤ 10000 by rw [List.length_map]; omega) (by decide), ?_⟩
            refine ⟨_, rfl, _, _, rfl, rfl, ⟨by decide, by decide⟩, ?_⟩
            refine ⟨_, _, _, _, _, ms ++ [rest % 1000], rfl, Same.put s2 hD, ?_, by rw [List.length_append, List.length_singleton]; omega⟩
            rw [upd_same, List.map_append]
            rfl
        · rintro σ H2 ⟨x2, rest, x4, x5, x6, ms, rfl, s2, hD2, hml2⟩
          exact ⟨_, _, _, _, _, ms, rfl, s2, hD2, by omega⟩
      · rw [decide_eq_false hbig]
        refine iteF ?_
        have h1 : ((c.natAbs : Nat) : Int) < 1000000000000000000 := by omega
        have h0 : 0 ≤ ((c.natAbs : Nat) : Int) := by omega
        generalize ((c.natAbs : Nat) : Int) = rest at h1 h0 ⊢
        refine ⟨_, rfl, _, _, rfl, rfl, .inl ⟨by omega, by omega⟩, _, _, rfl, rfl, .inl ⟨_, rfl, _, _, rfl, rfl, (by show (0 : Int) < 2147483647; decide), ?_⟩⟩
        have o1 : 0 ≤ (rest * 48271 + 11) % 2147483647 := Int.emod_nonneg _ (by decide)
        have o2 : (rest * 48271 + 11) % 2147483647 < 2147483647 := Int.emod_lt_of_pos _ (by decide)
        refine ⟨_, rfl, _, _, rfl, rfl, .inl ⟨by show _ < (rest * 48271 + 11) % 2147483647; omega, by show (rest * 48271 + 11) % 2147483647 < _; omega⟩, _, rfl, _, _, rfl, rfl, .inl ⟨_, rfl, _, _, rfl, rfl, (by show (0 : Int) < 2147483629; decide), ?_⟩⟩
        refine ⟨_, rfl, .inl ⟨rfl, _, SqL.of hD1⟩, ?_⟩
        refine ⟨_, rfl, .inl ⟨_, rfl, _, _, rfl, rfl, (by show (0 : Int) < 1000; decide), ?_⟩⟩
        refine ⟨_, rfl, .inl ⟨_, rfl, _, _, rfl, rfl, (by show (0 : Int) < 1000; decide), ?_⟩⟩
        refine ⟨_, rfl, .inl ⟨_, rfl, _, _, rfl, rfl, (by show (0 : Int) < 1000; decide), ?_⟩⟩
        refine ⟨by show 3 ≤ sizeLine; decide, fun L hL => ?_⟩
        have nDL : D ≠ L := ne_of_none hD1 hL
        refine ⟨D, L, _, _, rfl, rfl, (by rw [upd_ne nDL]; exact hD1), upd_same, Nat.le_trans (show _ ≤ 10000 by rw [List.length_map]; show ms.length + 3 ≤ 10000; omega) (by decide), ?_⟩
        refine ⟨_, _, _, _, _, ms ++ [rest % 1000, ((rest * 48271 + 11) % 2147483647) % 1000, (((rest * 48271 + 11) % 2147483647 * 69621 + rest) % 2147483629) % 1000], rfl, Same.put (Same.add s1 hL) hD, ?_, ?_⟩
        · rw [upd_same, List.map_append]
          rfl
        · rw [List.length_append]
          show ms.length + 3 ≤ _
          omega
    · rintro σ H1 ⟨x2, x3, x4, x5, x6, ms, rfl, s1, hD1, hml⟩
      rw [List.length_map] at hml
      exact ⟨_, rfl, k D H1 s1 hD ⟨ms, hD1, by omega⟩⟩
end
end YW
namespace YW
open PySem L2
/-- the law's tree in the heap -/
def TreeAt (H : Hp) : YM.Tr → V → Prop
  | .dev k b, v => ∃ a, v = .ref a ∧ H a = some (.lst [.str "device", .str (kdS k), .int ((b : Nat) : Int)])
  | .node sq l r, v => ∃ a v1 v2, v = .ref a ∧ H a = some (.lst [.str ⟨#[YM.opC sq]⟩, v1, v2]) ∧ TreeAt H l v1 ∧ TreeAt H r v2
theorem TreeAt.kp {D : Addr} {H H' : Hp} (k : KpX D H H') (hD : DrAt H D) : ∀ {t : YM.Tr} {v : V}, TreeAt H t v → TreeAt H' t v
  | .dev _ _, _, h => by
    obtain ⟨a, rfl, e⟩ := h
    obtain ⟨ns, hns, _⟩ := hD
    refine ⟨a, rfl, k a _ (ne_of e hns ?_) e⟩
    intro q
    injection q with q
    cases ns with
    | nil => cases q
    | cons n ns => cases q
  | .node _ _ _, _, h => by
    obtain ⟨a, v1, v2, rfl, e, h1, h2⟩ := h
    obtain ⟨ns, hns, hl⟩ := id hD
    refine ⟨a, v1, v2, rfl, k a _ (ne_of e hns ?_) e, TreeAt.kp k hD h1, TreeAt.kp k hD h2⟩
    intro q
    injection q with q
    cases ns with
    | nil => cases q
    | cons n ns => cases q
theorem TreeAt.same {H H' : Hp} (s : Same H H') : ∀ {t : YM.Tr} {v : V}, TreeAt H t v → TreeAt H' t v
  | .dev _ _, _, ⟨a, e, h⟩ => ⟨a, e, s _ _ h⟩
  | .node _ _ _, _, ⟨a, v1, v2, e, h, h1, h2⟩ => ⟨a, v1, v2, e, s _ _ h, TreeAt.same s h1, TreeAt.same s h2⟩
theorem slen (x y : Str) : (x ++ y).length = x.length + y.length := Array.size_append
theorem op_dev (sq : Bool) : decide (V.str ⟨#[YM.opC sq]⟩ = V.str "device") = false := by cases sq <;> decide +kernel
theorem str_dg {b : Nat} (h0 : b ≠ 0) (h : b ≤ 4) : (Str.ofString (toString ((b : Nat) : Int))) = ⟨#[48 + b]⟩ := by
  have : b = 1 ∨ b = 2 ∨ b = 3 ∨ b = 4 := by omega
  rcases this with rfl | rfl | rfl | rfl <;> decide +kernel
def NetAt (H : Hp) (v : V) (t : YM.Tr) (f : Nat) : Prop := ∃ a e x l d ls ds, v = .ref a ∧ H a = some (.lst [.ref e, .ref x, .ref l, .ref d]) ∧ H e = some (.lst (vN (YM.ent t f))) ∧ H x = some (.lst (vN (YM.ext t f))) ∧
  H l = some (.lst ls) ∧ Paired (LinkAt H) ls (YM.lnk t f) ∧ H d = some (.lst ds) ∧ ds.length = t.size ∧ ∀ x ∈ ds, ∃ q, x = V.ref q
theorem NetAt.same {H H' : Hp} (s : Same H H') {v : V} {t : YM.Tr} {f : Nat} (h : NetAt H v t f) : NetAt H' v t f := by
  obtain ⟨a, e, x, l, d, ls, ds, rfl, h1, h2, h3, h4, h5, h6, h7⟩ := h
  exact ⟨a, e, x, l, d, ls, ds, rfl, s _ _ h1, s _ _ h2, s _ _ h3, s _ _ h4, Paired.mapP h5 fun _ _ q => q.keep (Same.keepT s), s _ _ h6, h7⟩
section
variable {P : Program} {w : World} {K : PySem.W.Frag} {mg : Str → Option Value} {base : Heap} {CG CR CY CS dI dO dT dC : Addr}
def spTold (n : Nat) : Sp := fun vs H Q _ => ∃ (v : V) (t : YM.Tr), vs = [v] ∧ TreeAt H t v ∧ TrOk t ∧ t.hgt < n ∧ ∀ H', Same H H' → Q (.str (tx t)) H'
theorem c_law_told (T : Txt K w mg CG CR CY CS dI dO dT dC) : ∀ n, C8.Cal P w K mg base (n + 1) "_law_told" (spTold n) []
  | 0 => by
    refine cal_of T.d_law_told b_law_told sc_law_told (fun vs H Q E h => ?_) (fun f cdv A outer s H vs Q E hr h => ?_)
    · obtain ⟨_, _, rfl, _⟩ := h
      rfl
    · obtain ⟨_, _, _, _, _, h, _⟩ := h
      exact absurd h (Nat.not_lt_zero _)
  | n + 1 => by
    have ih := c_law_told T n
    refine cal_of T.d_law_told b_law_told sc_law_told (fun vs H Q E h => ?_) (fun f cdv A outer s H vs Q E hr h => ?_)
    · obtain ⟨_, _, rfl, _⟩ := h
      rfl
    · obtain ⟨v, t, rfl, hT, ok, hh, k⟩ := h
      refine ⟨_, pss_cons (ps_if (pt_cmpR op_eq (pe_ix ix_list (pv 0) pe_int (fun _ _ => rfl)) pe_str (nomark _))
          (pss_cons (ps_if (pt_cmpR op_eq (pe_ix ix_list (pv 0) pe_int (fun _ _ => rfl)) pe_int (nomark _)) (pss_one (ps_ret (pe_ix ix_list (pv 0) pe_int (fun _ _ => rfl)))) pss_nil)
          (pss_one (ps_ret (pe_op op_add_str (pe_ix ix_list (pv 0) pe_int (fun _ _ => rfl)) (pe_callTy call_str_int (by rfl) T.z_str (by decide +kernel) (pa_cons (pe_ix ix_list (pv 0) pe_int (fun _ _ => rfl)) pa_nil)))))) pss_nil)
        (pss_one (ps_ret (pe_op op_add_str (pe_op op_add_str (pe_op op_add_str (pe_op op_add_str (pe_ix ix_list (pv 0) pe_int (fun _ _ => rfl)) (C8.pe_c ih hr (Nat.le_refl _) rfl (pa_cons (pe_ix ix_list (pv 0) pe_int (fun _ _ => rfl)) pa_nil))) pe_str) (C8.pe_c ih hr (Nat.le_refl _) rfl (pa_cons (pe_ix ix_list (pv 0) pe_int (fun _ _ => rfl)) pa_nil)))
          (pe_dget (hu_of hr) (pe_disp (pps_cons pe_str pe_str (pps_cons pe_str pe_str pps_nil)) (by rfl) (by rfl) (fun z => by cases z) (by decide)) (pe_ix ix_list (pv 0) pe_int (fun _ _ => rfl)) (fun _ _ => rfl))))), ?_⟩
      cases t with
      | dev kd b =>
        obtain ⟨a, rfl, ha⟩ := hT
        refine ⟨_, rfl, a, _, 0, _, rfl, rfl, SqL.of ha, rfl, rfl, _, rfl, ?_⟩
        rw [decide_eq_true rfl]
        refine iteT ?_
        refine ⟨_, rfl, a, _, 2, _, rfl, rfl, SqL.of ha, rfl, rfl, _, rfl, ?_⟩
        have hb4 : b ≤ 4 := ok.1
        by_cases h0 : b = 0
        · subst h0
          rw [decide_eq_true (show V.int ((0 : Nat) : Int) = V.int 0 from rfl)]
          refine iteT ⟨_, rfl, a, _, 1, _, rfl, rfl, SqL.of ha, rfl, ?_⟩
          have e : kdS kd = tx (.dev kd 0) := kd_eq kd
          rw [e]
          exact k H (fun _ _ h => h)
        · rw [decide_eq_false (by intro q; injection q with q; omega)]
          refine iteF ⟨_, rfl, a, _, 1, _, rfl, rfl, SqL.of ha, rfl, _, rfl, a, _, 2, _, rfl, rfl, SqL.of ha, rfl, ((b : Nat) : Int), rfl, ?_, ?_⟩
          · have : b = 1 ∨ b = 2 ∨ b = 3 ∨ b = 4 := by omega
            rcases this with rfl | rfl | rfl | rfl <;> decide +kernel
          · rw [str_dg h0 hb4]
            refine ⟨_, _, rfl, rfl, by rw [kd_eq]; show 2 ≤ sizeLine; decide, ?_⟩
            have e : kdS kd ++ ⟨#[48 + b]⟩ = tx (.dev kd b) := strL (by rw [strA, kd_eq]; show [YM.kdC kd] ++ [48 + b] = YM.kdC kd :: YM.dgC b; unfold YM.dgC; rw [if_neg h0]; rfl)
            rw [e]
            exact k H (fun _ _ h => h)
      | node sq l r =>
        obtain ⟨a, v1, v2, rfl, ha, h1, h2⟩ := hT
        refine ⟨_, rfl, a, _, 0, _, rfl, rfl, SqL.of ha, rfl, rfl, _, rfl, ?_⟩
        rw [op_dev]
        refine iteF ?_
        simp only [YM.Tr.hgt] at hh
        have ll := ok.lft.len
        have lr := ok.rgt.len
        have tl : (tx l).length ≤ 12 := ll
        have tr : (tx r).length ≤ 12 := lr
        refine ⟨_, rfl, a, _, 0, _, rfl, rfl, SqL.of ha, rfl, ?_⟩
        refine ⟨_, rfl, a, _, 1, _, rfl, rfl, SqL.of ha, rfl, v1, l, rfl, h1, ok.lft, by omega, fun H1 s1 => ?_⟩
        have e1 : (⟨#[YM.opC sq]⟩ : Str).length = 1 := rfl
        have e2 : (" " : Str).length = 1 := by rw [spc_eq]; rfl
        refine ⟨_, _, rfl, rfl, Nat.le_trans (show 1 + (tx l).length ≤ 40 by omega) (by decide), ?_⟩
        refine ⟨_, _, rfl, rfl, Nat.le_trans (show ((⟨#[YM.opC sq]⟩ : Str) ++ tx l).length + (" " : Str).length ≤ 40 by rw [slen, e1, e2]; omega) (by decide), ?_⟩
        refine ⟨_, rfl, a, _, 2, _, rfl, rfl, SqL.of (s1 _ _ ha), rfl, v2, r, rfl, h2.same s1, ok.rgt, by omega, fun H2 s2 => ?_⟩
        refine ⟨_, _, rfl, rfl, Nat.le_trans (show ((⟨#[YM.opC sq]⟩ : Str) ++ tx l ++ " ").length + (tx r).length ≤ 40 by rw [slen, slen, e1, e2]; omega) (by decide), ?_⟩
        intro p hp
        refine ⟨upd_same, [(Sum.inr "(", .str ")"), (Sum.inr "[", .str "]")], rfl, by decide, ?_⟩
        rw [upd_upd]
        have s3 : Same H2 (upd H2 p (.dK (mergeK [] [(Sum.inr "(", .str ")"), (Sum.inr "[", .str "]")]))) := Same.new hp
        refine ⟨_, rfl, a, _, 0, _, rfl, rfl, SqL.of (s3 _ _ (s2 _ _ (s1 _ _ ha))), rfl, p, .str ⟨#[YM.clC sq]⟩, rfl, ?_, ?_⟩
        · have hv : valV (mergeK [] [((Sum.inr "(" : Key), V.str ")"), (Sum.inr "[", .str "]")]) (Sum.inr ⟨#[YM.opC sq]⟩) = some (.str ⟨#[YM.clC sq]⟩) := by cases sq <;> decide +kernel
          have := DGet.k (H := upd H2 p (.dK (mergeK [] [(Sum.inr "(", .str ")"), (Sum.inr "[", .str "]")]))) (a := p) (k := (Sum.inr ⟨#[YM.opC sq]⟩ : Key)) upd_same
          rw [hv] at this
          exact this
        · refine ⟨_, _, rfl, rfl, Nat.le_trans (show ((⟨#[YM.opC sq]⟩ : Str) ++ tx l ++ " " ++ tx r).length + 1 ≤ 40 by rw [slen, slen, slen, e1, e2]; omega) (by decide), ?_⟩
          have e : (⟨#[YM.opC sq]⟩ : Str) ++ tx l ++ " " ++ tx r ++ ⟨#[YM.clC sq]⟩ = tx (.node sq l r) := by
            refine strL ?_
            rw [strA, strA, strA, strA, spc_eq]
            show [YM.opC sq] ++ YM.told l ++ [32] ++ YM.told r ++ [YM.clC sq] = YM.opC sq :: (YM.told l ++ 32 :: (YM.told r ++ [YM.clC sq]))
            simp
          rw [e]
          exact k _ ((s1.trans s2).trans s3)
end
end YW
namespace YW
open PySem L2
section
variable {P : Program} {w : World} {K : PySem.W.Frag} {mg : Str → Option Value} {base : Heap} {CG CR CY CS dI dO dT dC : Addr}
def spNet (n : Nat) : Sp := fun vs H Q _ => ∃ (v : V) (t : YM.Tr) (f : Nat), vs = [v, .int ((f : Nat) : Int)] ∧ TreeAt H t v ∧ t.size ≤ 3 ∧ t.hgt < n ∧ ∀ v' H', Same H H' → NetAt H' v' t f → Q v' H'
theorem c_law_net (T : Txt K w mg CG CR CY CS dI dO dT dC) : ∀ n, C8.Cal P w K mg base (n + 1) "_law_net" (spNet n) []
  | 0 => by
    refine cal_of T.d_law_net b_law_net sc_law_net (fun vs H Q E h => ?_) (fun f cdv A outer s H vs Q E hr h => ?_)
    · obtain ⟨_, _, _, rfl, _⟩ := h
      rfl
    · obtain ⟨_, _, _, _, _, _, h, _⟩ := h
      exact absurd h (Nat.not_lt_zero _)
  | n + 1 => by
    have ih := c_law_net T n
    refine cal_of T.d_law_net b_law_net sc_law_net (fun vs H Q E h => ?_) (fun f cdv A outer s H vs Q E hr h => ?_)
    · obtain ⟨_, _, _, rfl, _⟩ := h
      rfl
    · obtain ⟨v, t, f0, rfl, hT, hsz, hh, k⟩ := h
      have nd := sc_law_net.nd
      refine ⟨_, pss_cons (ps_if (pt_cmpR op_eq (pe_ix ix_list (pv 0) pe_int (fun _ _ => rfl)) pe_str (nomark _))
          (pss_one (ps_ret (pe_lst (pa_cons (pe_lst (pa_cons (pv 1) pa_nil)) (pa_cons (pe_lst (pa_cons (pv 1) pa_nil)) (pa_cons (pe_lst pa_nil) (pa_cons (pe_lst (pa_cons (pe_lst (pa_cons (pe_ix ix_list (pv 0) pe_int (fun _ _ => rfl)) (pa_cons (pe_ix ix_list (pv 0) pe_int (fun _ _ => rfl)) pa_nil))) pa_nil)) pa_nil))))))) pss_nil)
        (pss_cons (ps_set (i := 2) nd rfl (Or.inl rfl) (C8.pe_c ih hr (Nat.le_refl _) rfl (pa_cons (pe_ix ix_list (pv 0) pe_int (fun _ _ => rfl)) (pa_cons (pv 1) pa_nil))))
        (pss_cons (ps_set (i := 3) nd rfl (Or.inl rfl) (C8.pe_c ih hr (Nat.le_refl _) rfl (pa_cons (pe_ix ix_list (pv 0) pe_int (fun _ _ => rfl)) (pa_cons (pe_op op_add (pv 1) (pe_callB call_len_seq (by rfl) T.z_len PySem.boot_len (pa_cons (pe_ix ix_list (pv 2) pe_int (fun _ _ => rfl)) pa_nil))) pa_nil))))
        (pss_cons (ps_set (i := 4) nd rfl (Or.inl rfl) (pe_op op_cat (pe_ix ix_list (pv 2) pe_int (fun _ _ => rfl)) (pe_ix ix_list (pv 3) pe_int (fun _ _ => rfl))))
        (pss_cons (ps_if (pt_cmpR op_eq (pe_ix ix_list (pv 0) pe_int (fun _ _ => rfl)) pe_str (nomark _))
          (pss_one (ps_ret (pe_lst (pa_cons (pe_op op_cat (pe_ix ix_list (pv 2) pe_int (fun _ _ => rfl)) (pe_ix ix_list (pv 3) pe_int (fun _ _ => rfl))) (pa_cons (pe_op op_cat (pe_ix ix_list (pv 2) pe_int (fun _ _ => rfl)) (pe_ix ix_list (pv 3) pe_int (fun _ _ => rfl))) (pa_cons (pv 4) (pa_cons (pe_op op_cat (pe_ix ix_list (pv 2) pe_int (fun _ _ => rfl)) (pe_ix ix_list (pv 3) pe_int (fun _ _ => rfl))) pa_nil))))))) pss_nil)
        (pss_cons (ps_for PassesOwn.never rfl (pi_list (pe_ix ix_list (pv 2) pe_int (fun _ _ => rfl))) (pg_name (i := 5) nd rfl (Or.inl rfl))
          (pss_one (ps_for PassesOwn.never rfl (pi_list (pe_ix ix_list (pv 3) pe_int (fun _ _ => rfl))) (pg_name (i := 6) nd rfl (Or.inl rfl))
            (pss_one (ps_expr (pe_bm PySem.F.plainAttrs_list PySem.F.slot_list_append PySem.F.type_list_append mt_append (pv 4) (pa_cons (pe_tup (pa_cons (pv 5) (pa_cons (pv 6) pa_nil))) pa_nil)))))))
        (pss_one (ps_ret (pe_lst (pa_cons (pe_ix ix_list (pv 2) pe_int (fun _ _ => rfl)) (pa_cons (pe_ix ix_list (pv 3) pe_int (fun _ _ => rfl)) (pa_cons (pv 4) (pa_cons (pe_op op_cat (pe_ix ix_list (pv 2) pe_int (fun _ _ => rfl)) (pe_ix ix_list (pv 3) pe_int (fun _ _ => rfl))) pa_nil)))))))))))), ?_⟩
      cases t with
      | dev kd b =>
        obtain ⟨a, rfl, ha⟩ := hT
        refine ⟨_, rfl, a, _, 0, _, rfl, rfl, SqL.of ha, rfl, rfl, _, rfl, ?_⟩
        rw [decide_eq_true rfl]
        refine iteT ?_
        refine ⟨_, rfl, by show 1 ≤ sizeLine; decide, fun e he => ?_⟩
        refine ⟨_, rfl, by show 1 ≤ sizeLine; decide, fun x hx => ?_⟩
        refine ⟨Nat.zero_le _, fun l hl => ?_⟩
        have s1 : Same H (upd (upd (upd H e (.lst [.int ((f0 : Nat) : Int)])) x (.lst [.int ((f0 : Nat) : Int)])) l (.lst [])) := ((Same.new he).trans (Same.new hx)).trans (Same.new hl)
        have ha1 := s1 _ _ ha
        refine ⟨_, rfl, a, _, 1, _, rfl, rfl, SqL.of ha1, rfl, _, rfl, a, _, 2, _, rfl, rfl, SqL.of ha1, rfl, by show 2 ≤ sizeLine; decide, fun d0 hd0 => ?_⟩
        refine ⟨by show 1 ≤ sizeLine; decide, fun d hd => ?_⟩
        refine ⟨by show 4 ≤ sizeLine; decide, fun r hr' => ?_⟩
        have nex : e ≠ x := ne_of_none upd_same hx
        have e1 : upd (upd H e (.lst [.int ((f0 : Nat) : Int)])) x (.lst [.int ((f0 : Nat) : Int)]) e = some (.lst [.int ((f0 : Nat) : Int)]) := by rw [upd_ne nex]; exact upd_same
        have sl : Same (upd (upd H e (.lst [.int ((f0 : Nat) : Int)])) x (.lst [.int ((f0 : Nat) : Int)])) (upd (upd (upd H e (.lst [.int ((f0 : Nat) : Int)])) x (.lst [.int ((f0 : Nat) : Int)])) l (.lst [])) := Same.new hl
        have s2 := Same.new (o := .lst [.str (kdS kd), .int ((b : Nat) : Int)]) hd0
        have s3 := Same.new (o := .lst [.ref d0]) hd
        have s4 := Same.new (o := .lst [.ref e, .ref x, .ref l, .ref d]) hr'
        have s5 := (s2.trans s3).trans s4
        exact k _ _ (s1.trans s5) ⟨r, e, x, l, d, [], [.ref d0], rfl, upd_same, s5 _ _ (sl _ _ e1), s5 _ _ (sl _ _ upd_same), s5 _ _ upd_same, .nil, s4 _ _ upd_same, rfl, fun x hx => ⟨d0, List.mem_singleton.mp hx⟩⟩
      | node sq lt rt =>
        obtain ⟨a, v1, v2, rfl, ha, h1, h2⟩ := hT
        refine ⟨_, rfl, a, _, 0, _, rfl, rfl, SqL.of ha, rfl, rfl, _, rfl, ?_⟩
        rw [op_dev]
        refine iteF ?_
        simp only [YM.Tr.hgt] at hh
        simp only [YM.Tr.size] at hsz
        have zl := YM.size_pos lt
        have zr := YM.size_pos rt
        refine ⟨_, rfl, a, _, 1, _, rfl, rfl, SqL.of ha, rfl, _, rfl, v1, lt, f0, rfl, h1, by omega, by omega, fun w1 H1 s1 n1 => ?_⟩
        obtain ⟨a1, e1, x1, l1, d1, ls1, ds1, rfl, p1, pe1, px1, pl1, pp1, pd1, pz1, pr1⟩ := id n1
        refine ⟨_, rfl, a, _, 2, _, rfl, rfl, SqL.of (s1 _ _ ha), rfl, _, rfl, _, rfl, a1, _, 3, .ref d1, rfl, rfl, SqL.of p1, rfl, d1, _, rfl, .inl (SqL.of pd1), _, _, rfl, rfl, ?_⟩
        rw [pz1]
        refine ⟨v2, rt, f0 + lt.size, rfl, h2.same s1, by omega, by omega, fun w2 H2 s2 n2 => ?_⟩
        obtain ⟨a2, e2, x2, l2, d2, ls2, ds2, rfl, p2, pe2, px2, pl2, pp2, pd2, pz2, pr2⟩ := id n2
        have q1 := s2 _ _ p1
        have qe1 := s2 _ _ pe1
        have qx1 := s2 _ _ px1
        have ql1 := s2 _ _ pl1
        have qd1 := s2 _ _ pd1
        have qp1 : Paired (LinkAt H2) ls1 (YM.lnk lt f0) := Paired.mapP pp1 fun _ _ q => q.keep (Same.keepT s2)
        have sH := s1.trans s2
        have b1 := YM.lnk_len lt f0
        have b2 := YM.lnk_len rt (f0 + lt.size)
        have b3 := YM.sq9 (n := lt.size) (by omega)
        have b4 := YM.sq9 (n := rt.size) (by omega)
        have lg1 := Paired.length qp1
        have lg2 := Paired.length pp2
        have c1 := (YM.ent_len lt f0).2
        have c2 := (YM.ext_len lt f0).2
        have c3 := (YM.ent_len rt (f0 + lt.size)).2
        have c4 := (YM.ext_len rt (f0 + lt.size)).2
        refine ⟨_, rfl, a1, _, 2, .ref l1, rfl, rfl, SqL.of q1, rfl, _, rfl, a2, _, 2, .ref l2, rfl, rfl, SqL.of p2, rfl, l1, l2, _, _, rfl, rfl, ql1, pl2, Nat.le_trans (show ls1.length + ls2.length ≤ 18 by omega) (by decide), fun L hL => ?_⟩
        have sL : Same H2 (upd H2 L (.lst (ls1 ++ ls2))) := Same.new hL
        have pL : Paired (LinkAt (upd H2 L (.lst (ls1 ++ ls2)))) (ls1 ++ ls2) (YM.lnk lt f0 ++ YM.lnk rt (f0 + lt.size)) := Paired.mapP (Paired.appd qp1 pp2) fun _ _ q => q.keep (Same.keepT sL)
        have aL : Acc LinkAt H2 (upd H2 L (.lst (ls1 ++ ls2))) L (YM.lnk lt f0 ++ YM.lnk rt (f0 + lt.size)) := ⟨sL, hL, _, upd_same, pL⟩
        generalize (upd H2 L (.lst (ls1 ++ ls2))) = H3 at sL pL aL ⊢
        refine ⟨_, rfl, a, _, 0, _, rfl, rfl, SqL.of (sL _ _ (sH _ _ ha)), rfl, rfl, _, rfl, ?_⟩
        rw [decV bra_eq]
        -- the devices of both
        cases sq with
        | true =>
          rw [decide_eq_true (show YM.opC true = 91 from rfl)]
          refine iteT ?_
          refine ⟨_, rfl, a1, _, 0, .ref e1, rfl, rfl, SqL.of (sL _ _ q1), rfl, _, rfl, a2, _, 0, .ref e2, rfl, rfl, SqL.of (sL _ _ p2), rfl, e1, e2, _, _, rfl, rfl, sL _ _ qe1, sL _ _ pe2, Nat.le_trans (show _ ≤ 6 by rw [vN_len, vN_len]; omega) (by decide), fun E hE => ?_⟩
          have sE : Same H3 (upd H3 E (.lst (vN (YM.ent lt f0) ++ vN (YM.ent rt (f0 + lt.size))))) := Same.new hE
          have eE : upd H3 E (.lst (vN (YM.ent lt f0) ++ vN (YM.ent rt (f0 + lt.size)))) E = some (.lst (vN (YM.ent lt f0 ++ YM.ent rt (f0 + lt.size)))) := by rw [upd_same, vN_app]
          generalize (upd H3 E (.lst (vN (YM.ent lt f0) ++ vN (YM.ent rt (f0 + lt.size))))) = H4 at sE eE ⊢
          have s24 := sL.trans sE
          refine ⟨_, rfl, a1, _, 1, .ref x1, rfl, rfl, SqL.of (s24 _ _ q1), rfl, _, rfl, a2, _, 1, .ref x2, rfl, rfl, SqL.of (s24 _ _ p2), rfl, x1, x2, _, _, rfl, rfl, s24 _ _ qx1, s24 _ _ px2, Nat.le_trans (show _ ≤ 6 by rw [vN_len, vN_len]; omega) (by decide), fun X hX => ?_⟩
          have sX : Same H4 (upd H4 X (.lst (vN (YM.ext lt f0) ++ vN (YM.ext rt (f0 + lt.size))))) := Same.new hX
          have eX : upd H4 X (.lst (vN (YM.ext lt f0) ++ vN (YM.ext rt (f0 + lt.size)))) X = some (.lst (vN (YM.ext lt f0 ++ YM.ext rt (f0 + lt.size)))) := by rw [upd_same, vN_app]
          generalize (upd H4 X (.lst (vN (YM.ext lt f0) ++ vN (YM.ext rt (f0 + lt.size))))) = H5 at sX eX ⊢
          have s25 := s24.trans sX
          refine ⟨_, rfl, _, rfl, a1, _, 3, .ref d1, rfl, rfl, SqL.of (s25 _ _ q1), rfl, _, rfl, a2, _, 3, .ref d2, rfl, rfl, SqL.of (s25 _ _ p2), rfl, d1, d2, _, _, rfl, rfl, s25 _ _ qd1, s25 _ _ pd2, Nat.le_trans (show ds1.length + ds2.length ≤ 6 by omega) (by decide), fun Dv hDv => ?_⟩
          have sD : Same H5 (upd H5 Dv (.lst (ds1 ++ ds2))) := Same.new hDv
          refine ⟨by show 4 ≤ sizeLine; decide, fun r hr' => ?_⟩
          have sR := Same.new (o := .lst [.ref E, .ref X, .ref L, .ref Dv]) hr'
          have sF := (sE.trans sX).trans (sD.trans sR)
          obtain ⟨_, _, xs, hxs, hpr⟩ := aL
          refine k _ _ ((sH.trans sL).trans sF) ⟨r, E, X, L, Dv, xs, _, rfl, upd_same, ?_, ?_, sF _ _ hxs, ?_, sR _ _ upd_same, by rw [List.length_append, pz1, pz2]; rfl, fun x hx => (List.mem_append.mp hx).elim (pr1 x) (pr2 x)⟩
          · exact (sX.trans (sD.trans sR)) _ _ eE
          · exact (sD.trans sR) _ _ eX
          · have : YM.lnk (.node true lt rt) f0 = YM.lnk lt f0 ++ YM.lnk rt (f0 + lt.size) := by simp [YM.lnk]
            rw [this]
            exact Paired.mapP hpr fun _ _ q => q.keep (Same.keepT sF)
        | false =>
          rw [decide_eq_false (by decide)]
          refine iteF ?_
          refine ⟨_, rfl, a1, _, 1, .ref x1, rfl, rfl, SqL.of (sL _ _ q1), rfl, x1, rfl, ⟨_, SqL.of (sL _ _ qx1)⟩, ?_⟩
          refine for_list (K := K) (a := x1) (xs := vN (YM.ext lt f0)) (fun i σ H' => ∃ (y5 y6 : Option V), σ = [some (.ref a), some (.int ((f0 : Nat) : Int)), some (.ref a1), some (.ref a2), some (.ref L), y5, y6] ∧ Acc LinkAt H2 H' L ((YM.lnk lt f0 ++ YM.lnk rt (f0 + lt.size)) ++ YM.joinL ((YM.ext lt f0).take i) (YM.ent rt (f0 + lt.size))))
            ⟨none, none, rfl, by rw [List.take_zero, show YM.joinL [] (YM.ent rt (f0 + lt.size)) = [] from rfl, List.append_nil]; exact aL⟩ (fun i σ H' _ ⟨_, _, _, ac⟩ => SqL.of (ac.1 _ _ qx1)) ?_ ?_
          · rintro i xv σ H4 hi ⟨y5, y6, rfl, ac⟩
            unfold vN at hi
            rw [List.getElem?_map] at hi
            obtain ⟨xo, hxo, rfl⟩ := Option.map_eq_some_iff.mp hi
            refine ⟨_, rfl, a2, _, 0, .ref e2, rfl, rfl, SqL.of (ac.1 _ _ p2), rfl, e2, rfl, ⟨_, SqL.of (ac.1 _ _ pe2)⟩, ?_⟩
            refine for_list (K := K) (a := e2) (xs := vN (YM.ent rt (f0 + lt.size))) (fun j σ H' => ∃ (y6 : Option V), σ = [some (.ref a), some (.int ((f0 : Nat) : Int)), some (.ref a1), some (.ref a2), some (.ref L), some (.int ((xo : Nat) : Int)), y6] ∧ Acc LinkAt H2 H' L (((YM.lnk lt f0 ++ YM.lnk rt (f0 + lt.size)) ++ YM.joinL ((YM.ext lt f0).take i) (YM.ent rt (f0 + lt.size))) ++ ((YM.ent rt (f0 + lt.size)).take j).map fun e => (((xo : Nat) : Int), ((e : Nat) : Int))))
              ⟨y6, rfl, by rw [List.take_zero, List.map_nil, List.append_nil]; exact ac⟩ (fun j σ H' _ ⟨_, _, ac⟩ => SqL.of (ac.1 _ _ pe2)) ?_ ?_
            · rintro j yv σ H5 hj ⟨y6, rfl, ac5⟩
              unfold vN at hj
              rw [List.getElem?_map] at hj
              obtain ⟨ee, hee, rfl⟩ := Option.map_eq_some_iff.mp hj
              obtain ⟨s5, _, xs, hxs, hpr⟩ := id ac5
              refine ⟨_, rfl, .inl ⟨rfl, _, SqL.of hxs⟩, _, rfl, _, rfl, by show 2 ≤ sizeLine; decide, fun t2 ht2 => ?_⟩
              have hxs2 : upd H5 t2 (.tup [.int ((xo : Nat) : Int), .int ((ee : Nat) : Int)]) L = some (.lst xs) := by rw [upd_ne (ne_of_none hxs ht2)]; exact hxs
              refine ⟨L, xs, _, rfl, rfl, hxs2, ?_, ?_⟩
              · rw [Paired.length hpr, List.length_append, List.length_append, List.length_append, List.length_map, List.length_take, YM.joinL_len, List.length_take]
                have : min i (YM.ext lt f0).length * (YM.ent rt (f0 + lt.size)).length ≤ 3 * 3 := Nat.mul_le_mul (by omega) (by omega)
                exact Nat.lt_of_le_of_lt (show _ ≤ 60 by omega) (by decide)
              · refine ⟨_, rfl, ?_⟩
                rw [take_succ_get hee, List.map_append, ← List.append_assoc]
                exact Acc.app keepLink (Acc.new keepLink ac5 ht2) hxs2 (v := .ref t2) (a := (((xo : Nat) : Int), ((ee : Nat) : Int))) ⟨t2, rfl, upd_same⟩
            · rintro σ H5 ⟨y6, rfl, ac5⟩
              refine ⟨_, _, rfl, ?_⟩
              rw [vN_len, List.take_length] at ac5
              rw [joinL_take hxo, ← List.append_assoc]
              exact ac5
          · rintro σ H4 ⟨y5, y6, rfl, ac⟩
            rw [vN_len, List.take_length] at ac
            obtain ⟨s4, _, xs, hxs, hpr⟩ := ac
            refine ⟨_, rfl, a1, _, 0, .ref e1, rfl, rfl, SqL.of (s4 _ _ q1), rfl, _, rfl, a2, _, 1, .ref x2, rfl, rfl, SqL.of (s4 _ _ p2), rfl, _, rfl, ?_⟩
            refine ⟨_, rfl, a1, _, 3, .ref d1, rfl, rfl, SqL.of (s4 _ _ q1), rfl, _, rfl, a2, _, 3, .ref d2, rfl, rfl, SqL.of (s4 _ _ p2), rfl, d1, d2, _, _, rfl, rfl, s4 _ _ qd1, s4 _ _ pd2, Nat.le_trans (show ds1.length + ds2.length ≤ 6 by omega) (by decide), fun Dv hDv => ?_⟩
            have sD : Same H4 (upd H4 Dv (.lst (ds1 ++ ds2))) := Same.new hDv
            refine ⟨by show 4 ≤ sizeLine; decide, fun r hr' => ?_⟩
            have sR := Same.new (o := .lst [.ref e1, .ref x2, .ref L, .ref Dv]) hr'
            have sF := sD.trans sR
            refine k _ _ ((sH.trans s4).trans sF) ⟨r, e1, x2, L, Dv, xs, _, rfl, upd_same, ?_, ?_, sF _ _ hxs, ?_, sR _ _ upd_same, by rw [List.length_append, pz1, pz2]; rfl, fun x hx => (List.mem_append.mp hx).elim (pr1 x) (pr2 x)⟩
            · exact sF _ _ (s4 _ _ qe1)
            · exact sF _ _ (s4 _ _ px2)
            · have : YM.lnk (.node false lt rt) f0 = (YM.lnk lt f0 ++ YM.lnk rt (f0 + lt.size)) ++ YM.joinL (YM.ext lt f0) (YM.ent rt (f0 + lt.size)) := by simp [YM.lnk]
              rw [this]
              exact Paired.mapP hpr fun _ _ q => q.keep (Same.keepT sF)
end
end YW
namespace YW
open PySem L2
def PlanAt (H : Hp) (v : V) (n : Nat) : Prop := ∃ a x0 x1 x2 d x4 ds, v = .ref a ∧ H a = some (.lst [x0, x1, x2, .ref d, x4]) ∧ H d = some (.lst ds) ∧ ds.length = n ∧ ∀ x ∈ ds, ∃ q, x = V.ref q
theorem letters (n : Int) : ∃ k : YM.Kd, atI [V.str "s", .str "s", .str "q", .str "d", .str "i", .str "o"] (n % 6) = some (.str (kdS k)) := by
  have h1 := Int.emod_nonneg n (show (6 : Int) ≠ 0 by decide)
  have h2 := Int.emod_lt_of_pos n (show (0 : Int) < 6 by decide)
  have : n % 6 = 0 ∨ n % 6 = 1 ∨ n % 6 = 2 ∨ n % 6 = 3 ∨ n % 6 = 4 ∨ n % 6 = 5 := by omega
  rcases this with e | e | e | e | e | e <;> rw [e]
  · exact ⟨.s, rfl⟩
  · exact ⟨.s, rfl⟩
  · exact ⟨.q, rfl⟩
  · exact ⟨.d, rfl⟩
  · exact ⟨.i, rfl⟩
  · exact ⟨.o, rfl⟩
theorem opens (n : Int) : ∃ sq : Bool, atI [V.str "(", .str "["] (n % 2) = some (.str ⟨#[YM.opC sq]⟩) := by
  have h1 := Int.emod_nonneg n (show (2 : Int) ≠ 0 by decide)
  have h2 := Int.emod_lt_of_pos n (show (0 : Int) < 2 by decide)
  have : n % 2 = 0 ∨ n % 2 = 1 := by omega
  rcases this with e | e <;> rw [e]
  · exact ⟨false, by rw [par_eq]; rfl⟩
  · exact ⟨true, by rw [bra_eq]; rfl⟩
theorem DrAt.ne {H : Hp} {D a : Addr} (h : DrAt H D) (ha : H a = none) : a ≠ D := fun q => by
  obtain ⟨ns, e, _⟩ := h
  rw [q, e] at ha
  cases ha
theorem KpX.free {D : Addr} {H H' : Hp} (k : KpX D H H') (h : DrAt H' D) {a : Addr} (ha : H' a = none) : H a = none := by
  have ne := h.ne ha
  cases e : H a with
  | none => rfl
  | some u =>
    rw [k a u ne e] at ha
    cases ha
section
variable {P : Program} {w : World} {K : PySem.W.Frag} {mg : Str → Option Value} {base : Heap} {CG CR CY CS dI dO dT dC : Addr}
def spPlan : Sp := fun vs H Q _ => ∃ (v : V) (t : YM.Tr), vs = [v] ∧ TreeAt H t v ∧ t.size ≤ 3 ∧ ∀ v' H', Same H H' → PlanAt H' v' t.size → Q v' H'
theorem cut4 (a b c d : V) : cutV [a, b, c, d] none (some 4) = [a, b, c, d] := by
  unfold cutV
  have e : HT.sIx [a, b, c, d].length [a, b, c, d].length (some 4) = 4 := HT.sIx_nat 4 4 4
  rw [e, HT.sIx_none]
  rfl
theorem c_law_plan (T : Txt K w mg CG CR CY CS dI dO dT dC) : C8.Cal P w K mg base 5 "_law_plan" spPlan [] := by
  refine cal_of T.d_law_plan b_law_plan sc_law_plan (fun vs H Q E h => ?_) (fun f cdv A outer s H vs Q E hr h => ?_)
  · obtain ⟨_, _, rfl, _⟩ := h
    rfl
  · obtain ⟨v, t, rfl, hT, hsz, k⟩ := h
    have nd := sc_law_plan.nd
    refine ⟨_, pss_cons (ps_set (i := 1) nd rfl (Or.inl rfl) (C8.pe_c (c_law_net T 3) hr (by decide) rfl (pa_cons (pv 0) (pa_cons pe_int pa_nil))))
      (pss_cons (ps_set (i := 2) nd rfl (Or.inl rfl) (pe_callTy call_list_of (by rfl) T.z_list (by decide +kernel) (pa_cons (pe_ix ix_list (pv 1) pe_int (fun _ _ => rfl)) pa_nil)))
      (pss_cons (ps_for PassesOwn.never rfl (pi_list (pe_ix ix_list (pv 1) pe_int (fun _ _ => rfl))) (pg_name (i := 3) nd rfl (Or.inl rfl))
        (pss_one (ps_expr (pe_bm PySem.F.plainAttrs_list PySem.F.slot_list_append PySem.F.type_list_append mt_append (pv 2) (pa_cons (pe_tup (pa_cons (pe_un un_neg pe_int) (pa_cons (pv 3) pa_nil))) pa_nil)))))
      (pss_cons (ps_for PassesOwn.never rfl (pi_list (pe_ix ix_list (pv 1) pe_int (fun _ _ => rfl))) (pg_name (i := 4) nd rfl (Or.inl rfl))
        (pss_one (ps_expr (pe_bm PySem.F.plainAttrs_list PySem.F.slot_list_append PySem.F.type_list_append mt_append (pv 2) (pa_cons (pe_tup (pa_cons (pv 4) (pa_cons (pe_un un_neg pe_int) pa_nil))) pa_nil)))))
      (pss_one (ps_ret (pe_op op_cat (pe_slice sl_list (pv 1) po_none (po_some pe_int)) (pe_lst (pa_cons (pe_callB (cr_sortL (d := 2) (by decide)) (by rfl) T.z_sorted (by decide +kernel) (pa_cons (pv 2) pa_nil)) pa_nil)))))))), ?_⟩
    have hh3 : t.hgt < 3 := by have := YM.hgt_size t; omega
    refine ⟨_, rfl, v, t, 0, rfl, hT, hsz, hh3, fun vn H1 s1 n1 => ?_⟩
    obtain ⟨a, e, x, l, d, ls, ds, rfl, p1, pe1, px1, pl1, pp1, pd1, pz1⟩ := n1
    refine ⟨_, rfl, a, _, 2, .ref l, rfl, rfl, SqL.of p1, rfl, l, ls, rfl, .inl (SqL.of pl1), fun L hL => ?_⟩
    have sL : Same H1 (upd H1 L (.lst ls)) := Same.new hL
    have aL : Acc LinkAt H1 (upd H1 L (.lst ls)) L (YM.lnk t 0) := ⟨sL, hL, _, upd_same, Paired.mapP pp1 fun _ _ q => q.keep (Same.keepT sL)⟩
    have b1 := YM.lnk_len t 0
    have b2 := YM.sq9 hsz
    have c1 := (YM.ent_len t 0).2
    have c2 := (YM.ext_len t 0).2
    generalize (upd H1 L (.lst ls)) = H2 at aL ⊢
    refine ⟨_, rfl, a, _, 0, .ref e, rfl, rfl, SqL.of (aL.1 _ _ p1), rfl, e, rfl, ⟨_, SqL.of (aL.1 _ _ pe1)⟩, ?_⟩
    refine for_list (K := K) (a := e) (xs := vN (YM.ent t 0)) (fun i σ H' => ∃ (y3 : Option V), σ = [some v, some (.ref a), some (.ref L), y3, none] ∧ Acc LinkAt H1 H' L (YM.lnk t 0 ++ ((YM.ent t 0).take i).map fun e => ((-1 : Int), ((e : Nat) : Int))))
      ⟨none, rfl, by rw [List.take_zero, List.map_nil, List.append_nil]; exact aL⟩ (fun i σ H' _ ⟨_, _, ac⟩ => SqL.of (ac.1 _ _ pe1)) ?_ ?_
    · rintro i xv σ H3 hi ⟨y3, rfl, ac⟩
      unfold vN at hi
      rw [List.getElem?_map] at hi
      obtain ⟨ee, hee, rfl⟩ := Option.map_eq_some_iff.mp hi
      obtain ⟨s5, _, xs, hxs, hpr⟩ := id ac
      refine ⟨_, rfl, .inl ⟨rfl, _, SqL.of hxs⟩, 1, rfl, _, rfl, by show 2 ≤ sizeLine; decide, fun t2 ht2 => ?_⟩
      have hxs2 : upd H3 t2 (.tup [.int (-1), .int ((ee : Nat) : Int)]) L = some (.lst xs) := by rw [upd_ne (ne_of_none hxs ht2)]; exact hxs
      refine ⟨L, xs, _, rfl, rfl, hxs2, ?_, ?_⟩
      · rw [Paired.length hpr, List.length_append, List.length_map, List.length_take]
        exact Nat.lt_of_le_of_lt (show _ ≤ 60 by omega) (by decide)
      · refine ⟨_, rfl, ?_⟩
        rw [take_succ_get hee, List.map_append, ← List.append_assoc]
        exact Acc.app keepLink (Acc.new keepLink ac ht2) hxs2 (v := .ref t2) (a := ((-1 : Int), ((ee : Nat) : Int))) ⟨t2, rfl, upd_same⟩
    · rintro σ H3 ⟨y3, rfl, ac⟩
      rw [vN_len, List.take_length] at ac
      refine ⟨_, rfl, a, _, 1, .ref x, rfl, rfl, SqL.of (ac.1 _ _ p1), rfl, x, rfl, ⟨_, SqL.of (ac.1 _ _ px1)⟩, ?_⟩
      refine for_list (K := K) (a := x) (xs := vN (YM.ext t 0)) (fun i σ H' => ∃ (y4 : Option V), σ = [some v, some (.ref a), some (.ref L), y3, y4] ∧ Acc LinkAt H1 H' L ((YM.lnk t 0 ++ (YM.ent t 0).map fun e => ((-1 : Int), ((e : Nat) : Int))) ++ ((YM.ext t 0).take i).map fun x => (((x : Nat) : Int), (-1 : Int))))
        ⟨none, rfl, by rw [List.take_zero, List.map_nil, List.append_nil]; exact ac⟩ (fun i σ H' _ ⟨_, _, ac⟩ => SqL.of (ac.1 _ _ px1)) ?_ ?_
      · rintro i xv σ H4 hi ⟨y4, rfl, ac4⟩
        unfold vN at hi
        rw [List.getElem?_map] at hi
        obtain ⟨ee, hee, rfl⟩ := Option.map_eq_some_iff.mp hi
        obtain ⟨s5, _, xs, hxs, hpr⟩ := id ac4
        refine ⟨_, rfl, .inl ⟨rfl, _, SqL.of hxs⟩, _, rfl, 1, rfl, by show 2 ≤ sizeLine; decide, fun t2 ht2 => ?_⟩
        have hxs2 : upd H4 t2 (.tup [.int ((ee : Nat) : Int), .int (-1)]) L = some (.lst xs) := by rw [upd_ne (ne_of_none hxs ht2)]; exact hxs
        refine ⟨L, xs, _, rfl, rfl, hxs2, ?_, ?_⟩
        · rw [Paired.length hpr, List.length_append, List.length_append, List.length_map, List.length_map, List.length_take]
          exact Nat.lt_of_le_of_lt (show _ ≤ 60 by omega) (by decide)
        · refine ⟨_, rfl, ?_⟩
          rw [take_succ_get hee, List.map_append, ← List.append_assoc]
          exact Acc.app keepLink (Acc.new keepLink ac4 ht2) hxs2 (v := .ref t2) (a := (((ee : Nat) : Int), (-1 : Int))) ⟨t2, rfl, upd_same⟩
      · rintro σ H4 ⟨y4, rfl, ac4⟩
        obtain ⟨s5, _, xs, hxs, hpr⟩ := ac4
        refine ⟨_, rfl, 4, rfl, a, _, rfl, SqL.of (s5 _ _ p1), fun C hC => ?_⟩
        rw [cut4]
        have sC := Same.new (o := .lst [.ref e, .ref x, .ref l, .ref d]) hC
        refine ⟨_, rfl, L, xs, rfl, SqL.of (sC _ _ hxs), fun xv hxv => ?_, fun zs S hperm hS => ?_⟩
        · obtain ⟨lk, _, tq, rfl, htq⟩ := Paired.mem hpr hxv
          exact ⟨[lk.1, lk.2], ⟨tq, rfl, SqT.of (sC _ _ htq)⟩, rfl⟩
        · have sS := Same.new (o := .lst zs) hS
          refine ⟨by show 1 ≤ sizeLine; decide, fun O hO => ?_⟩
          have sO := Same.new (o := .lst [.ref S]) hO
          refine ⟨C, O, _, _, rfl, rfl, sO _ _ (sS _ _ upd_same), upd_same, by show 5 ≤ sizeLine; decide, fun r hr' => ?_⟩
          have sR := Same.new (o := .lst ([.ref e, .ref x, .ref l, .ref d] ++ [.ref S])) hr'
          have sF := (sC.trans sS).trans (sO.trans sR)
          exact k _ _ ((s1.trans s5).trans sF) ⟨r, _, _, _, d, _, ds, rfl, upd_same, sF _ _ (s5 _ _ pd1), pz1⟩
def spTree (D : Addr) (n : Nat) : Sp := fun vs H Q _ => ∃ room : Nat, vs = [.ref D, .int ((room : Nat) : Int)] ∧ DrAt H D ∧ 1 ≤ room ∧ room ≤ n ∧ room ≤ 3 ∧ ∀ v t H', KpX D H H' → DrAt H' D → TreeAt H' t v → t.bok → t.size ≤ room → Q v H'
theorem c_law_tree (T : Txt K w mg CG CR CY CS dI dO dT dC) (D : Addr) : ∀ n, C8.Cal P w K mg base (n + 5) "_law_tree" (spTree D n) []
  | 0 => by
    refine cal_of T.d_law_tree b_law_tree sc_law_tree (fun vs H Q E h => ?_) (fun f cdv A outer s H vs Q E hr h => ?_)
    · obtain ⟨_, rfl, _⟩ := h
      rfl
    · obtain ⟨_, _, _, _, _, _⟩ := h
      omega
  | n + 1 => by
    have ih := c_law_tree T D n
    refine cal_of T.d_law_tree b_law_tree sc_law_tree (fun vs H Q E h => ?_) (fun f cdv A outer s H vs Q E hr h => ?_)
    · obtain ⟨_, rfl, _⟩ := h
      rfl
    · obtain ⟨room, rfl, hD, hr1, hrn, hr3, k⟩ := h
      have nd := sc_law_tree.nd
      refine ⟨_, pss_cons (ps_set (i := 2) nd rfl (Or.inl rfl) (pe_op op_mod (pe_callTy call_int1 (by rfl) T.z_int (by decide +kernel) (pa_cons (C8.pe_c (c_law_next T D) hr (by omega) rfl (pa_cons (pv 0) pa_nil)) pa_nil)) pe_int))
        (pss_cons (ps_if (PW.pt (pw_or (pt_cmpR op_lt (pv 1) pe_int (nomark _)) (pw_or1 (pt_cmpR op_lt (pv 2) pe_int (nomark _)))))
          (pss_cons (ps_set (i := 3) nd rfl (Or.inl rfl) (pe_ix ix_list (pe_lst (pa_cons pe_str (pa_cons pe_str (pa_cons pe_str (pa_cons pe_str (pa_cons pe_str (pa_cons pe_str pa_nil))))))) (pe_op op_mod (pe_callTy call_int1 (by rfl) T.z_int (by decide +kernel) (pa_cons (C8.pe_c (c_law_next T D) hr (by omega) rfl (pa_cons (pv 0) pa_nil)) pa_nil)) pe_int) (fun _ _ => rfl)))
          (pss_one (ps_ret (pe_lst (pa_cons pe_str (pa_cons (pv 3) (pa_cons (pe_op op_mod (pe_callTy call_int1 (by rfl) T.z_int (by decide +kernel) (pa_cons (C8.pe_c (c_law_next T D) hr (by omega) rfl (pa_cons (pv 0) pa_nil)) pa_nil)) pe_int) pa_nil))))))) pss_nil)
        (pss_cons (ps_set (i := 4) nd rfl (Or.inl rfl) (C8.pe_c ih hr (by omega) rfl (pa_cons (pv 0) (pa_cons (pe_op op_sub (pv 1) pe_int) pa_nil))))
        (pss_cons (ps_set (i := 5) nd rfl (Or.inl rfl) (pe_op op_sub (pv 1) (pe_callB call_len_seq (by rfl) T.z_len PySem.boot_len (pa_cons (pe_ix ix_list (C8.pe_c (c_law_net T 3) hr (by omega) rfl (pa_cons (pv 4) (pa_cons pe_int pa_nil))) pe_int (fun _ _ => rfl)) pa_nil))))
        (pss_one (ps_ret (pe_lst (pa_cons (pe_ix ix_list (pe_lst (pa_cons pe_str (pa_cons pe_str pa_nil))) (pe_op op_mod (pe_callTy call_int1 (by rfl) T.z_int (by decide +kernel) (pa_cons (pv 2) pa_nil)) pe_int) (fun _ _ => rfl)) (pa_cons (pv 4) (pa_cons (C8.pe_c ih hr (by omega) rfl (pa_cons (pv 0) (pa_cons (pv 5) pa_nil))) pa_nil))))))))), ?_⟩
      refine ⟨_, rfl, rfl, hD, fun n1 H1 hD1 k1 _ => .inl ⟨_, rfl, _, _, rfl, rfl, (by show (0 : Int) < 7; decide), ?_⟩⟩
      have k70 := Int.emod_nonneg n1 (show (7 : Int) ≠ 0 by decide)
      refine ⟨_, rfl, _, _, rfl, rfl, _, rfl, ?_⟩
      by_cases hroom : ((room : Nat) : Int) < 2
      · rw [decide_eq_true hroom]
        refine iteT (iteT ?_)
        refine ⟨by show 6 ≤ sizeLine; decide, fun L hL => ?_⟩
        refine ⟨_, rfl, rfl, hD1.same (Same.new hL), fun n2 H2 hD2 k2 _ => .inl ⟨_, rfl, _, _, rfl, rfl, (by show (0 : Int) < 6; decide), ?_⟩⟩
        obtain ⟨kd, hkd⟩ := letters n2
        refine ⟨L, _, _, .str (kdS kd), rfl, rfl, SqL.of (k2 _ _ (hD1.ne hL) upd_same), hkd, ?_⟩
        refine ⟨_, rfl, _, rfl, rfl, hD2, fun n3 H3 hD3 k3 _ => .inl ⟨_, rfl, _, _, rfl, rfl, (by show (0 : Int) < 5; decide), ?_⟩⟩
        refine ⟨by show 3 ≤ sizeLine; decide, fun a ha => ?_⟩
        have g1 := Int.emod_nonneg n3 (show (5 : Int) ≠ 0 by decide)
        have g2 := Int.emod_lt_of_pos n3 (show (0 : Int) < 5 by decide)
        refine k (.ref a) (.dev kd (n3 % 5).toNat) _ (((k1.trans (Same.kpX (Same.new hL))).trans (k2.trans k3)).trans (Same.kpX (Same.new ha))) (hD3.same (Same.new ha)) ⟨a, rfl, ?_⟩ (show (n3 % 5).toNat ≤ 4 by omega) hr1
        rw [upd_same, Int.toNat_of_nonneg g1]
      · rw [decide_eq_false hroom]
        refine iteF ?_
        refine ⟨_, rfl, _, _, rfl, rfl, _, rfl, ?_⟩
        by_cases hk4 : n1 % 7 < 4
        · rw [show decide (n1 % 7 < 4) = true from decide_eq_true hk4]
          refine iteT ?_
          refine ⟨by show 6 ≤ sizeLine; decide, fun L hL => ?_⟩
          refine ⟨_, rfl, rfl, hD1.same (Same.new hL), fun n2 H2 hD2 k2 _ => .inl ⟨_, rfl, _, _, rfl, rfl, (by show (0 : Int) < 6; decide), ?_⟩⟩
          obtain ⟨kd, hkd⟩ := letters n2
          refine ⟨L, _, _, .str (kdS kd), rfl, rfl, SqL.of (k2 _ _ (hD1.ne hL) upd_same), hkd, ?_⟩
          refine ⟨_, rfl, _, rfl, rfl, hD2, fun n3 H3 hD3 k3 _ => .inl ⟨_, rfl, _, _, rfl, rfl, (by show (0 : Int) < 5; decide), ?_⟩⟩
          refine ⟨by show 3 ≤ sizeLine; decide, fun a ha => ?_⟩
          have g1 := Int.emod_nonneg n3 (show (5 : Int) ≠ 0 by decide)
          have g2 := Int.emod_lt_of_pos n3 (show (0 : Int) < 5 by decide)
          refine k (.ref a) (.dev kd (n3 % 5).toNat) _ (((k1.trans (Same.kpX (Same.new hL))).trans (k2.trans k3)).trans (Same.kpX (Same.new ha))) (hD3.same (Same.new ha)) ⟨a, rfl, ?_⟩ (show (n3 % 5).toNat ≤ 4 by omega) hr1
          rw [upd_same, Int.toNat_of_nonneg g1]
        · rw [show decide (n1 % 7 < 4) = false from decide_eq_false hk4]
          refine iteF ?_
          -- the first part
          refine ⟨_, rfl, _, rfl, _, _, rfl, rfl, room - 1, ?_, hD1, by omega, by omega, by omega, fun v1 t1 H2 k2 hD2 hT1 hb1 hz1 => ?_⟩
          · show [V.ref D, V.int (((room : Nat) : Int) - 1)] = _
            rw [show ((room : Nat) : Int) - 1 = ((room - 1 : Nat) : Int) by omega]
          have hh1 : t1.hgt < 3 := by have := YM.hgt_size t1; omega
          refine ⟨_, rfl, _, rfl, v1, t1, 0, rfl, hT1, by omega, hh1, fun vn H3 s3 hn => ?_⟩
          obtain ⟨na, ne_, nx_, nl_, nd_, nls, nds, rfl, p1, pe1, px1, pl1, pp1, pd1, pz1, _⟩ := hn
          refine ⟨na, _, 3, .ref nd_, rfl, rfl, SqL.of p1, rfl, nd_, _, rfl, .inl (SqL.of pd1), _, _, rfl, rfl, ?_⟩
          rw [pz1]
          have hD3 := hD2.same s3
          have hT3 := hT1.same s3
          have z1 := YM.size_pos t1
          refine ⟨by show 2 ≤ sizeLine; decide, fun L hL => ?_⟩
          have sL := Same.new (o := .lst [.str "(", .str "["]) hL
          obtain ⟨sq, hsq⟩ := opens (n1 % 7)
          refine ⟨_, rfl, .inl ⟨_, rfl, _, _, rfl, rfl, (by show (0 : Int) < 2; decide), ?_⟩⟩
          refine ⟨L, _, _, .str ⟨#[YM.opC sq]⟩, rfl, rfl, SqL.of upd_same, hsq, ?_⟩
          refine ⟨_, rfl, _, rfl, _, rfl, room - t1.size, ?_, hD3.same sL, by omega, by omega, by omega, fun v2 t2 H4 k4 hD4 hT2 hb2 hz2 => ?_⟩
          · show [V.ref D, V.int (((room : Nat) : Int) - ((t1.size : Nat) : Int))] = _
            rw [show ((room : Nat) : Int) - ((t1.size : Nat) : Int) = ((room - t1.size : Nat) : Int) by omega]
          refine ⟨by show 3 ≤ sizeLine; decide, fun a ha => ?_⟩
          have sA := Same.new (o := .lst [.str ⟨#[YM.opC sq]⟩, v1, v2]) ha
          refine k (.ref a) (.node sq t1 t2) _ ((((k1.trans k2).trans (Same.kpX s3)).trans (Same.kpX sL)).trans (k4.trans (Same.kpX sA))) (hD4.same sA) ⟨a, v1, v2, rfl, upd_same, ?_, hT2.same sA⟩ ⟨hb1, hb2⟩ (by simp only [YM.Tr.size]; omega)
          exact (TreeAt.kp k4 (hD3.same sL) (hT3.same sL)).same sA
end
end YW
namespace YW
open PySem L2
theorem ins_perm {row : List Int} {w : Int} (i : Nat) : (row.take i ++ [w] ++ row.drop i).Perm (row ++ [w]) := by
  rw [List.append_assoc]
  refine (List.Perm.append_left _ List.perm_append_comm).trans ?_
  rw [← List.append_assoc, List.take_append_drop]
section
variable {P : Program} {w : World} {K : PySem.W.Frag} {mg : Str → Option Value} {base : Heap} {CG CR CY CS dI dO dT dC : Addr}
def spLRow (D : Addr) : Sp := fun vs H Q _ => ∃ size : Nat, vs = [.ref D, .int ((size : Nat) : Int)] ∧ DrAt H D ∧ size ≤ 5 ∧ ∀ R H' (row : List Int), KpX D H H' → DrAt H' D → H R = none → H' R = some (.lst (row.map V.int)) → YM.IsRow row → row.length = size → Q (.ref R) H'
theorem c_law_row (T : Txt K w mg CG CR CY CS dI dO dT dC) (D : Addr) : C8.Cal P w K mg base 2 "_law_row" (spLRow D) [] := by
  refine cal_of T.d_law_row b_law_row sc_law_row (fun vs H Q E h => ?_) (fun f cdv A outer s H vs Q E hr h => ?_)
  · obtain ⟨_, rfl, _⟩ := h
    rfl
  · obtain ⟨size, rfl, hD, h5, k⟩ := h
    have nd := sc_law_row.nd
    refine ⟨_, pss_cons (ps_set (i := 2) nd rfl (Or.inl rfl) (pe_lst pa_nil))
      (pss_cons (ps_for PassesOwn.never rfl (pi_range2 (by rfl) T.z_range (pa_cons pe_int (pa_cons (pe_op op_add (pv 1) pe_int) pa_nil))) (pg_name (i := 3) nd rfl (Or.inl rfl))
        (pss_one (ps_expr (pe_bm PySem.F.plainAttrs_list PySem.F.slot_list_insert PySem.F.type_list_insert mt_insert (pv 2) (pa_cons (pe_op op_mod (pe_callTy call_int1 (by rfl) T.z_int (by decide +kernel) (pa_cons (C8.pe_c (c_law_next T D) hr (by decide) rfl (pa_cons (pv 0) pa_nil)) pa_nil)) (pe_op op_add (pe_callB call_len_seq (by rfl) T.z_len PySem.boot_len (pa_cons (pv 2) pa_nil)) pe_int)) (pa_cons (pv 3) pa_nil))))))
      (pss_one (ps_ret (pv 2)))), ?_⟩
    refine ⟨Nat.zero_le _, fun R hR => ?_⟩
    have nRD : R ≠ D := hD.ne hR
    refine ⟨_, rfl, _, _, rfl, rfl, 1, _, rfl, ⟨by decide, by decide, by omega, by omega⟩, ?_⟩
    refine for_range (lo := 1) (n := (((size : Nat) : Int) + 1 - 1).toNat) (fun i σ H' => ∃ (x3 : Option V) (row : List Int), σ = [some (.ref D), some (.int ((size : Nat) : Int)), some (.ref R), x3] ∧ KpX D H H' ∧ DrAt H' D ∧ H' R = some (.lst (row.map V.int)) ∧ row.Perm (YM.upTo i) ∧ row.length = i)
      ⟨none, [], rfl, Same.kpX (Same.new hR), hD.same (Same.new hR), upd_same, .refl _, rfl⟩ ?_ ?_
    · rintro i σ H1 hi ⟨x3, row, rfl, k1, hD1, hR1, hp, hl⟩
      refine ⟨_, rfl, .inl ⟨rfl, _, SqL.of hR1⟩, ?_⟩
      refine ⟨_, rfl, rfl, hD1, fun n H2 hD2 k2 _ => .inl ⟨_, rfl, ?_⟩⟩
      have hR2 : H2 R = some (.lst (row.map V.int)) := k2 _ _ nRD hR1
      refine ⟨_, rfl, R, _, rfl, .inl (SqL.of hR2), _, _, rfl, rfl, ?_⟩
      rw [lenVI]
      refine ⟨_, _, rfl, rfl, (by show (0 : Int) < ((row.length : Nat) : Int) + 1; omega), ?_⟩
      have g1 : 0 ≤ n % (((row.length : Nat) : Int) + 1) := Int.emod_nonneg n (by omega)
      have g2 : n % (((row.length : Nat) : Int) + 1) < ((row.length : Nat) : Int) + 1 := Int.emod_lt_of_pos n (by omega)
      refine ⟨_, rfl, R, _, n % (((row.length : Nat) : Int) + 1), .int (1 + ((i : Nat) : Int)), rfl, rfl, hR2, Nat.lt_of_le_of_lt (show _ ≤ 5 by rw [lenVI]; omega) (by decide), g1, by omega, ?_⟩
      refine ⟨_, row.take (n % (((row.length : Nat) : Int) + 1)).toNat ++ [1 + ((i : Nat) : Int)] ++ row.drop (n % (((row.length : Nat) : Int) + 1)).toNat, rfl, ?_, ?_, ?_, ?_, ?_⟩
      · intro a u na e
        have ne : a ≠ R := fun q => by rw [q, hR] at e; cases e
        rw [upd_ne ne]
        exact k2 _ _ na (k1 _ _ na e)
      · obtain ⟨ns, e, hl'⟩ := hD2
        exact ⟨ns, by rw [upd_ne nRD.symm]; exact e, hl'⟩
      · rw [upd_same]
        simp
      · refine (ins_perm _).trans ?_
        rw [YM.upTo_succ, show 1 + ((i : Nat) : Int) = ((i : Nat) : Int) + 1 by omega]
        exact hp.append_right _
      · have := (ins_perm (row := row) (w := 1 + ((i : Nat) : Int)) (n % (((row.length : Nat) : Int) + 1)).toNat).length_eq
        simp only [List.length_append, List.length_singleton] at this ⊢
        omega
    · rintro σ H1 ⟨x3, row, rfl, k1, hD1, hR1, hp, hl⟩
      have hl' : row.length = size := by omega
      refine ⟨_, rfl, k R H1 row k1 hD1 hR hR1 ?_ hl'⟩
      unfold YM.IsRow
      rw [hl]
      exact hp
def spDrawn : Sp := fun vs H Q _ => ∃ D, vs = [.ref D, .int 5] ∧ DrAt H D ∧ ∀ a vt vn R H' (t : YM.Tr) (row : List Int), KpX D H H' → DrAt H' D → H' a = some (.lst [vt, vn, .ref R]) → TreeAt H' t vt → TrOk t → H' R = some (.lst (row.map V.int)) → YM.IsRow row → row.length ≤ 5 → t.size + row.length ≤ 7 → R ≠ D → Q (.ref a) H'
theorem c_law_drawn (T : Txt K w mg CG CR CY CS dI dO dT dC) : C8.Cal P w K mg base 9 "_law_drawn" spDrawn [] := by
  refine cal_of T.d_law_drawn b_law_drawn sc_law_drawn (fun vs H Q E h => ?_) (fun f cdv A outer s H vs Q E hr h => ?_)
  · obtain ⟨_, rfl, _⟩ := h
    rfl
  · obtain ⟨D, rfl, hD, k⟩ := h
    have nd := sc_law_drawn.nd
    refine ⟨_, pss_cons (ps_set (i := 2) nd rfl (Or.inl rfl) (C8.pe_c (c_law_tree T D 3) hr (by decide) rfl (pa_cons (pv 0) (pa_cons (pe_op op_add pe_int (pe_op op_mod (pe_callTy call_int1 (by rfl) T.z_int (by decide +kernel) (pa_cons (C8.pe_c (c_law_next T D) hr (by decide) rfl (pa_cons (pv 0) pa_nil)) pa_nil)) pe_int)) pa_nil))))
      (pss_cons (ps_set (i := 3) nd rfl (Or.inl rfl) (C8.pe_c (c_law_plan T) hr (by decide) rfl (pa_cons (pv 2) pa_nil)))
      (pss_cons (ps_set (i := 4) nd rfl (Or.inl rfl) (pe_op op_mod (pe_callTy call_int1 (by rfl) T.z_int (by decide +kernel) (pa_cons (C8.pe_c (c_law_next T D) hr (by decide) rfl (pa_cons (pv 0) pa_nil)) pa_nil)) (pe_op op_add (pv 1) pe_int)))
      (pss_cons (ps_set (i := 4) nd rfl (Or.inl rfl) (pe_callB (call_min2 rfl) (by rfl) T.z_min (by decide +kernel) (pa_cons (pv 4) (pa_cons (pe_op op_add (pe_op op_sub (pe_op op_add (pv 1) pe_int) (pe_callB call_len_seq (by rfl) T.z_len PySem.boot_len (pa_cons (pe_ix ix_list (pv 3) pe_int (fun _ _ => rfl)) pa_nil)))
          (pe_op op_fdiv (pe_op op_mod (pe_callTy call_int1 (by rfl) T.z_int (by decide +kernel) (pa_cons (C8.pe_c (c_law_next T D) hr (by decide) rfl (pa_cons (pv 0) pa_nil)) pa_nil)) pe_int) pe_int)) pa_nil))))
      (pss_one (ps_ret (pe_lst (pa_cons (pv 2) (pa_cons (pv 3) (pa_cons (C8.pe_c (c_law_row T D) hr (by decide) rfl (pa_cons (pv 0) (pa_cons (pv 4) pa_nil))) pa_nil))))))))), ?_⟩
    refine ⟨_, rfl, _, rfl, rfl, hD, fun n1 H1 hD1 k1 _ => .inl ⟨_, rfl, _, _, rfl, rfl, (by show (0 : Int) < 3; decide), _, _, rfl, rfl, ?_⟩⟩
    have r1 := Int.emod_nonneg n1 (show (3 : Int) ≠ 0 by decide)
    have r2 := Int.emod_lt_of_pos n1 (show (0 : Int) < 3 by decide)
    refine ⟨(1 + n1 % 3).toNat, ?_, hD1, by omega, by omega, by omega, fun vt t H2 k2 hD2 hT hb hz => ?_⟩
    · show [V.ref D, V.int (1 + n1 % 3)] = _
      rw [Int.toNat_of_nonneg (by omega)]
    have ok : TrOk t := ⟨hb, by omega⟩
    have z1 := YM.size_pos t
    refine ⟨_, rfl, vt, t, rfl, hT, ok.2, fun vn H3 s3 hn => ?_⟩
    obtain ⟨na, x0, x1, x2, d, x4, ds, rfl, p1, pd, pz, prs⟩ := hn
    have hD3 := hD2.same s3
    have hT3 := hT.same s3
    refine ⟨_, rfl, rfl, hD3, fun n2 H4 hD4 k4 _ => .inl ⟨_, rfl, _, rfl, _, _, rfl, rfl, _, _, rfl, rfl, (by show (0 : Int) < 5 + 1; decide), ?_⟩⟩
    have q1 := Int.emod_nonneg n2 (show (6 : Int) ≠ 0 by decide)
    have q2 := Int.emod_lt_of_pos n2 (show (0 : Int) < 6 by decide)
    have hT4 := hT3.kp k4 hD3
    obtain ⟨dns, hdns, _⟩ := id hD3
    have nna : na ≠ D := ne_of p1 hdns (by
      intro q
      injection q with q
      have := congrArg (fun l : List V => l[3]?) q
      simp only [List.getElem?_map] at this
      cases h : dns[3]? with
      | none => rw [h] at this; cases this
      | some z => rw [h] at this; cases this)
    have nd_ : d ≠ D := ne_of pd hdns (by
      intro q
      injection q with q
      cases ds with
      | nil => simp at pz; omega
      | cons y ys =>
        obtain ⟨b, hb'⟩ := prs y List.mem_cons_self
        cases dns with
        | nil => cases q
        | cons z zs =>
          rw [hb'] at q
          cases q)
    refine ⟨_, rfl, _, rfl, _, _, rfl, rfl, _, rfl, na, _, 3, .ref d, rfl, rfl, SqL.of (k4 _ _ nna p1), rfl, d, _, rfl, .inl (SqL.of (k4 _ _ nd_ pd)), _, _, rfl, rfl, ?_⟩
    rw [pz]
    refine ⟨_, rfl, rfl, hD4, fun n3 H5 hD5 k5 _ => .inl ⟨_, rfl, _, _, rfl, rfl, (by show (0 : Int) < 8; decide), _, _, rfl, rfl, ⟨by decide, by decide⟩, _, _, rfl, rfl, _, _, rfl, ?_⟩⟩
    have u1 := Int.emod_nonneg n3 (show (8 : Int) ≠ 0 by decide)
    have u2 := Int.emod_lt_of_pos n3 (show (0 : Int) < 8 by decide)
    have hT5 := hT4.kp k5 hD4
    -- the size
    have hsz : ∃ size : Nat, (if (5 + 1 - ((t.size : Nat) : Int)) + n3 % 8 / 7 < n2 % 6 then (5 + 1 - ((t.size : Nat) : Int)) + n3 % 8 / 7 else n2 % 6) = ((size : Nat) : Int) ∧ size ≤ 5 ∧ t.size + size ≤ 7 := by
      have hz3 := ok.2
      refine ⟨(if (5 + 1 - ((t.size : Nat) : Int)) + n3 % 8 / 7 < n2 % 6 then (5 + 1 - ((t.size : Nat) : Int)) + n3 % 8 / 7 else n2 % 6).toNat, ?_, ?_, ?_⟩ <;> split <;> omega
    obtain ⟨size, es, hs5, hs7⟩ := hsz
    refine ⟨_, rfl, _, rfl, _, rfl, _, rfl, size, ?_, hD5, hs5, fun R H6 row k6 hD6 hR0 hR hrow hlen => ?_⟩
    · show [V.ref D, V.int (if (5 + 1 - ((t.size : Nat) : Int)) + n3 % 8 / 7 < n2 % 6 then (5 + 1 - ((t.size : Nat) : Int)) + n3 % 8 / 7 else n2 % 6)] = _
      rw [es]
    refine ⟨by show 3 ≤ sizeLine; decide, fun a ha => ?_⟩
    have sA := Same.new (o := .lst [vt, .ref na, .ref R]) ha
    have kk : KpX D H H6 := ((k1.trans k2).trans (Same.kpX s3)).trans ((k4.trans k5).trans k6)
    exact k a vt (.ref na) R _ t row (kk.trans (Same.kpX sA)) (hD6.same sA) upd_same ((hT5.kp k6 hD5).same sA) ok (sA _ _ hR) hrow (by omega) (by omega) (hD5.ne hR0)
def spLTRow (K : PySem.W.Frag) : Sp := fun vs H Q _ => ∃ (v : V) (row : List Int), vs = [v] ∧ SqLI K H v row ∧ YM.IsRow row ∧ row.length ≤ 5 ∧ ∀ p H', Same H H' → H' p = some (.lst ((YM.trow row).map V.int)) → Q (.ref p) H'
theorem c_law_turned_row (T : Txt K w mg CG CR CY CS dI dO dT dC) : C8.Cal P w K mg base 1 "_law_turned_row" (spLTRow K) [] := by
  refine cal_of T.d_law_turned_row b_law_turned_row sc_law_turned_row (fun vs H Q E h => ?_) (fun f cdv A outer s H vs Q E hr h => ?_)
  · obtain ⟨_, _, rfl, _⟩ := h
    rfl
  · obtain ⟨v, row, rfl, ⟨ra, rfl, hR⟩, hrow, h5, k⟩ := h
    have nd := sc_law_turned_row.nd
    refine ⟨_, pss_cons (ps_set (i := 1) nd rfl (Or.inl rfl) (pe_callB call_len_seq (by rfl) T.z_len PySem.boot_len (pa_cons (pv 0) pa_nil)))
      (pss_cons (ps_set (i := 2) nd rfl (Or.inl rfl) (pe_lst pa_nil))
      (pss_cons (ps_for PassesOwn.never rfl (pi_range2 (by rfl) T.z_range (pa_cons pe_int (pa_cons (pe_op op_add (pv 1) pe_int) pa_nil))) (pg_name (i := 3) nd rfl (Or.inl rfl))
        (pss_one (ps_expr (pe_bm PySem.F.plainAttrs_list PySem.F.slot_list_append PySem.F.type_list_append mt_append (pv 2) (pa_cons (pe_op op_sub (pv 1) (pe_bm PySem.F.plainAttrs_list PySem.F.slot_list_index PySem.F.type_list_index mt_index (pv 0) (pa_cons (pe_op op_sub (pe_op op_add (pv 1) pe_int) (pv 3)) pa_nil))) pa_nil)))))
      (pss_one (ps_ret (pv 2))))), ?_⟩
    refine ⟨_, rfl, ra, _, rfl, .inl hR, ?_⟩
    rw [lenVI]
    refine ⟨Nat.zero_le _, fun L hL => ?_⟩
    refine ⟨_, rfl, _, _, rfl, rfl, 1, _, rfl, ⟨by decide, by decide, by omega, by omega⟩, ?_⟩
    refine for_range (lo := 1) (n := (((row.length : Nat) : Int) + 1 - 1).toNat) (fun i σ H' => ∃ (x3 : Option V) (xs : List Int), σ = [some (.ref ra), some (.int ((row.length : Nat) : Int)), some (.ref L), x3] ∧ Same H H' ∧ H' L = some (.lst (xs.map V.int)) ∧ xs = (YM.trow row).take i)
      ⟨none, [], rfl, Same.new hL, upd_same, by simp⟩ ?_ ?_
    · rintro i σ H1 hi ⟨x3, xs, rfl, s1, hL1, hxs⟩
      have hi' : i < row.length := by omega
      obtain ⟨p, hp, hpe⟩ := YM.at_of_mem hrow (w := (row.length : Int) - (i : Nat)) (by omega) (by omega)
      have hxl : xs.length = i := by rw [hxs, List.length_take, YM.trow_len]; omega
      refine ⟨_, rfl, .inl ⟨rfl, _, SqL.of hL1⟩, ?_⟩
      refine ⟨_, rfl, _, rfl, .inl ⟨rfl, _, s1.seq hR⟩, ?_⟩
      refine ⟨_, rfl, _, _, rfl, rfl, _, rfl, _, _, rfl, rfl, ?_⟩
      refine ⟨ra, _, _, p, .int row[p], rfl, rfl, s1.seq hR, rfl, ?_, ?_, ?_, ?_, ?_⟩
      · rw [List.all_eq_true]
        intro x hx
        obtain ⟨z, _, rfl⟩ := List.mem_map.mp hx
        rfl
      · rw [List.getElem?_map, List.getElem?_eq_getElem hp]
        rfl
      · show (row[p] == ((row.length : Nat) : Int) + 1 - (1 + ((i : Nat) : Int))) = true
        rw [hpe]
        exact beq_iff_eq.mpr (by omega)
      · intro m z' hm hz'
        rw [List.getElem?_map] at hz'
        obtain ⟨z, hz, rfl⟩ := Option.map_eq_some_iff.mp hz'
        show (z == ((row.length : Nat) : Int) + 1 - (1 + ((i : Nat) : Int))) = false
        refine beq_eq_false_iff_ne.mpr fun e => ?_
        obtain ⟨hm1, hm2⟩ := List.getElem?_eq_some_iff.mp hz
        have hn := YM.IsRow.nodup hrow
        have e1 : row[m] = row[p] := by rw [hm2, hpe, e]; omega
        have e2 : m = p := by rw [← YM.idx_at hn hm1, ← YM.idx_at hn hp, e1]
        omega
      · refine ⟨_, _, rfl, rfl, ?_⟩
        refine ⟨L, _, _, rfl, rfl, hL1, Nat.lt_of_le_of_lt (show _ ≤ 5 by rw [lenVI]; omega) (by decide), ?_⟩
        refine ⟨_, xs ++ [((row.length : Nat) : Int) - ((p : Nat) : Int)], rfl, Same.put s1 hL, ?_, ?_⟩
        · rw [upd_same, List.map_append]
          rfl
        · have ht := YM.trow_at row hi'
          rw [← hpe, YM.lam_at hrow hp] at ht
          rw [take_succ_get ht, hxs]
    · rintro σ H1 ⟨x3, xs, rfl, s1, hL1, hxs⟩
      rw [List.take_of_length_le (by rw [YM.trow_len]; omega)] at hxs
      subst hxs
      exact ⟨_, rfl, k L H1 s1 hL1⟩
end
end YW
namespace YW
open PySem L2
theorem run_can {Y : YM.Yard} {row : List Int} : ∀ {ms : List YM.Mv} {s t : YM.Sit}, YM.Run (YM.Mk Y row) s ms t → ∀ m ∈ ms, ∃ s', YM.Can Y row.length s' m
  | [], _, _, _, m, hm => nomatch hm
  | x :: ms, s, t, ⟨u, ⟨hc, _⟩, h2⟩, m, hm => by
    rcases List.mem_cons.mp hm with rfl | hm
    · exact ⟨s, hc⟩
    · exact run_can h2 m hm
theorem way_dev {Y : YM.Yard} {row : List Int} {ms : List YM.Mv} (lk : YM.LinksOk Y) (w : YM.Way Y row ms) : ∀ m ∈ ms, DevOk Y m.1 ∧ DevOk Y m.2.2.1 := fun m hm => by
  obtain ⟨t, hr, _⟩ := w
  obtain ⟨s', hc⟩ := run_can hr m hm
  exact ⟨lk.src _ _ hc.1, lk.tgt _ _ hc.1⟩
section
variable {P : Program} {w : World} {K : PySem.W.Frag} {mg : Str → Option Value} {base : Heap} {CG CR CY CS dI dO dT dC : Addr}
def spLaw (K : PySem.W.Frag) : Sp := fun vs H Q _ => ∃ (a : Addr) (ns : List Int), vs = [.ref a] ∧ SqL K H a (ns.map V.int) ∧ ns.length ≤ 63 ∧ ∀ H', Q (.bl true) H'
theorem fn_law (T : Txt K w mg CG CR CY CS dI dO dT dC) {f : Addr} {fd : FuncData} (D : C8.Def K mg "law" s_law f fd) : FnOk P w K mg base C8.CX0 10 f fd ["_law_script"] (spLaw K) := by
  refine C8.fn0 D.fn sc_law (fun vs H Q E h => ?_) (fun cdv A outer s H vs Q E hr h => ?_)
  · obtain ⟨_, _, rfl, _⟩ := h
    rfl
  · obtain ⟨a, ns, rfl, hS, hl, k⟩ := h
    have nd := sc_law.nd
    refine ⟨_, pss_cons (ps_set (i := 1) nd rfl (Or.inl rfl) (C8.pe_c (c_law_draws T) hr (by decide) rfl (pa_cons (pv 0) pa_nil)))
      (pss_cons (ps_expr (pe_bm0 PySem.F.plainAttrs_list PySem.F.slot_list_reverse PySem.F.type_list_reverse mt_reverse (pv 1)))
      (pss_cons (ps_asg (C8.pe_c (c_law_drawn T) hr (by decide) rfl (pa_cons (pv 1) (pa_cons pe_int pa_nil))) (pg_lst (by rfl) (pgs_cons (pg_name (i := 2) nd rfl (.inl rfl)) (pgs_cons (pg_name (i := 3) nd rfl (.inl rfl)) (pgs_cons (pg_name (i := 4) nd rfl (.inl rfl)) pgs_nil)))))
      (pss_cons (ps_set (i := 5) nd rfl (Or.inl rfl) (C8.pe_c (c_law_told T 3) hr (by decide) rfl (pa_cons (pv 2) pa_nil)))
      (pss_cons (ps_set (i := 6) nd rfl (Or.inl rfl) (C8.pe_c (c_turned T) hr (by decide) rfl (pa_cons (pv 5) pa_nil)))
      (pss_cons (ps_if (pt_cmpR op_ne (C8.pe_c (c_turned T) hr (by decide) rfl (pa_cons (pv 6) pa_nil)) (pv 5) (nomark _)) (pss_one (ps_ret pe_bl)) pss_nil)
      (pss_cons (ps_set (i := 7) nd rfl (Or.inl rfl) (C8.pe_c (c_law_turned_row T) hr (by decide) rfl (pa_cons (pv 4) pa_nil)))
      (pss_cons (ps_if (pt_cmpR (op_neD hr.units) (C8.pe_c (c_turned_row T) hr (by decide) rfl (pa_cons (pe_callTy call_list_of (by rfl) T.z_list (by decide +kernel) (pa_cons (pv 4) pa_nil)) pa_nil)) (pv 7) (nomark _)) (pss_one (ps_ret pe_bl)) pss_nil)
      (pss_cons (ps_set (i := 8) nd rfl (Or.inl rfl) (C8.pe_mk (k_yinit T) hr (by decide) rfl (pa_cons (pv 5) pa_nil)))
      (pss_cons (ps_set (i := 9) nd rfl (Or.inl rfl) (C8.pe_mk (k_yinit T) hr (by decide) rfl (pa_cons (pv 6) pa_nil)))
      (pss_cons (ps_set (i := 10) nd rfl (Or.inl rfl) (C8.pe_c (c_solve T) hr (by decide) rfl (pa_cons (pv 8) (pa_cons (pe_callTy call_list_of (by rfl) T.z_list (by decide +kernel) (pa_cons (pv 4) pa_nil)) pa_nil))))
      (pss_cons (ps_set (i := 11) nd rfl (Or.inl rfl) (C8.pe_c (c_fewest T) hr (by decide) rfl (pa_cons (pv 9) (pa_cons (pe_callTy call_list_of (by rfl) T.z_list (by decide +kernel) (pa_cons (pv 7) pa_nil)) pa_nil))))
      (pss_cons (ps_if (pt_cmpR op_isN (pv 10) pe_non (nomark _)) (pss_one (ps_ret (pe_cmpR op_isN (pv 11) pe_non (nomark _)))) pss_nil)
      (pss_cons (ps_if (pt_cmpR op_ne (pv 11) (pe_callB call_len_seq (by rfl) T.z_len PySem.boot_len (pa_cons (pv 10) pa_nil)) (nomark _)) (pss_one (ps_ret pe_bl)) pss_nil)
      (pss_cons (ps_set (i := 12) nd rfl (Or.inl rfl) (C8.pe_c (c_turned_moves T (c_turned_numbers T) (by decide)) hr (by decide) rfl (pa_cons (pv 8) (pa_cons (pe_callTy call_list_of (by rfl) T.z_list (by decide +kernel) (pa_cons (pv 10) pa_nil)) pa_nil))))
      (pss_one (ps_ret (pe_and (pe_cmpR op_is_bl (C8.pe_c (c_sorts T) hr (by decide) rfl (pa_cons (pv 9) (pa_cons (pe_callTy call_list_of (by rfl) T.z_list (by decide +kernel) (pa_cons (pv 7) pa_nil)) (pa_cons (pe_callTy call_list_of (by rfl) T.z_list (by decide +kernel) (pa_cons (pv 12) pa_nil)) pa_nil)))) pe_bl (nomark _))
        (pe_one (pe_cmpR op_eq (pe_callB call_len_seq (by rfl) T.z_len PySem.boot_len (pa_cons (pv 12) pa_nil)) (pe_callB call_len_seq (by rfl) T.z_len PySem.boot_len (pa_cons (pv 10) pa_nil)) (nomark _)))))))))))))))))))), ?_⟩
    -- the draws
    refine ⟨_, rfl, a, ns, rfl, hS, hl, fun D H1 s1 D0 hD1 => ?_⟩
    obtain ⟨ms0, hms0, hml0⟩ := hD1
    refine ⟨_, rfl, .inl ⟨rfl, _, SqL.of hms0⟩, D, _, rfl, rfl, hms0, ?_⟩
    have hD2 : DrAt (upd H1 D (.lst (ms0.map V.int).reverse)) D := ⟨ms0.reverse, by rw [upd_same, List.map_reverse], by rw [List.length_reverse]; exact hml0⟩
    generalize (upd H1 D (.lst (ms0.map V.int).reverse)) = H2 at hD2 ⊢
    -- tree, net, row
    refine ⟨_, rfl, D, rfl, hD2, fun ta vt vn R H3 t row k3 hD3 hta hT ok hR hrow h5 h7 nRD => ?_⟩
    refine ⟨ta, _, rfl, SqL.of hta, rfl, _, _, rfl, _, _, rfl, _, _, rfl, rfl, ?_⟩
    have hkl : (YM.yardOf t).kinds.length = t.size := YM.kds_len t
    have hkl' : (YM.yardOf (YM.turnT t)).kinds.length = t.size := (YM.kds_len _).trans (YM.turnT_size t)
    have htl := YM.trow_len row
    have htr := YM.trow_row hrow
    -- text, other
    refine ⟨_, rfl, vt, t, rfl, hT, ok, hgt3 ok, fun H4 s4 => ?_⟩
    refine ⟨_, rfl, t, rfl, ok, fun H5 s5 => ?_⟩
    refine ⟨_, rfl, YM.turnT t, rfl, ok.turn, fun H6 s6 => ?_⟩
    refine ⟨_, rfl, rfl, _, rfl, ?_⟩
    rw [YM.turnT_turnT, decide_eq_true rfl]
    refine iteF ?_
    have s36 : Same H3 H6 := (s4.trans s5).trans s6
    have hR6 := s36 _ _ hR
    -- due
    refine ⟨_, rfl, _, row, rfl, ⟨R, rfl, SqL.of hR6⟩, hrow, h5, fun due H7 s7 hdue => ?_⟩
    -- turned_row
    refine ⟨_, rfl, R, _, rfl, .inl (SqL.of (s7 _ _ hR6)), fun l1 hl1 => ?_⟩
    have sl1 := Same.new (o := .lst (row.map V.int)) hl1
    refine ⟨_, row, rfl, ⟨l1, rfl, SqL.of upd_same, by omega, hrow⟩, h5, fun tr H8 s8 htr8 => ?_⟩
    have s78 := sl1.trans s8
    refine ⟨_, rfl, _, _, dp_ints (SqL.of htr8), dp_ints (SqL.of (s78 _ _ hdue)), PySem.W.ke_shaped_ints _, PySem.W.ke_shaped_ints _, _, rfl, ?_⟩
    rw [eqv_ints_list]
    refine iteF ?_
    have hR8 := s78 _ _ (s7 _ _ hR6)
    have hdue8 := s78 _ _ hdue
    -- the two yards
    refine ⟨_, rfl, fun y dy hy hdy hne => ?_⟩
    refine ⟨H8, y, dy, t, rfl, Same.put (Same.new hdy) hy, hy, upd_same, ok, fun H9 s9 hY => ⟨rfl, ?_⟩⟩
    refine ⟨_, rfl, fun y' dy' hy' hdy' hne' => ?_⟩
    refine ⟨H9, y', dy', YM.turnT t, rfl, Same.put (Same.new hdy') hy', hy', upd_same, ok.turn, fun H10 s10 hY' => ⟨rfl, ?_⟩⟩
    have hYb := hY.same s10
    have hR10 := s10 _ _ (s9 _ _ hR8)
    have hdue10 := s10 _ _ (s9 _ _ hdue8)
    -- solve
    have sm : Small (YM.yardOf t) row := ⟨hrow, h5, by rw [hkl]; exact h7⟩
    have sm' : Small (YM.yardOf (YM.turnT t)) (YM.trow row) := ⟨htr, by rw [htl]; exact h5, by rw [hkl', htl]; exact h7⟩
    refine ⟨_, rfl, _, rfl, R, _, rfl, .inl (SqL.of hR10), fun l2 hl2 => ?_⟩
    have sl2 := Same.new (o := .lst (row.map V.int)) hl2
    refine ⟨_, _, row, _, _, rfl, hYb.same sl2, ⟨l2, rfl, SqL.of upd_same, by omega, hrow⟩, sm, fun wv H11 ms s11 hw hok hms4 => ?_⟩
    have s1011 := sl2.trans s11
    have hY11 := hYb.same s1011
    have hYm11 := hY'.same s1011
    have hdue11 := s1011 _ _ hdue10
    -- fewest
    refine ⟨_, rfl, _, rfl, due, _, rfl, .inl (SqL.of hdue11), fun l3 hl3 => ?_⟩
    have sl3 := Same.new (o := .lst ((YM.trow row).map V.int)) hl3
    refine ⟨_, _, YM.trow row, _, _, rfl, hYm11.same sl3, ⟨l3, rfl, SqL.of upd_same, by omega, htr⟩, sm', fun H12 ms' s12 hok' => ?_⟩
    have s1112 := sl3.trans s12
    have tr1 := YM.trn_of ok.2
    have tr2 := YM.trn_of ok.turn.2
    rw [YM.turnT_turnT] at tr2
    have both := YM.solve_turn tr1 tr2 (yard_ok ok).lk (yard_ok ok.turn).lk hrow hok hok'
    rcases both with ⟨rfl, rfl⟩ | ⟨l, l', rfl, rfl, hll, hway, htlen⟩
    · cases (show wv = .non from hw)
      refine ⟨_, rfl, rfl, _, rfl, ?_⟩
      rw [decide_eq_true rfl]
      refine iteT ⟨_, rfl, rfl, ?_⟩
      exact k _
    · obtain ⟨Dw, ys, rfl, hDw, hpw⟩ := hw
      refine ⟨_, rfl, rfl, _, rfl, ?_⟩
      rw [decide_eq_false (by intro q; cases q)]
      refine iteF ?_
      have hDw12 := s1112 _ _ hDw
      have hpw12 : Paired (MvAt H12) ys l := Paired.mapP hpw fun _ _ q => q.keep (Same.keepT s1112)
      refine ⟨_, rfl, _, rfl, Dw, _, rfl, .inl (SqL.of hDw12), rfl, _, rfl, ?_⟩
      rw [Paired.length hpw12]
      rw [decide_eq_true (by show V.int ((l'.length : Nat) : Int) = V.int ((l.length : Nat) : Int); rw [hll])]
      refine iteF ?_
      have hl4 := hms4 l rfl
      -- turned_moves
      refine ⟨_, rfl, _, rfl, Dw, _, rfl, .inl (SqL.of hDw12), fun l4 hl4' => ?_⟩
      have sl4 := Same.new (o := .lst ys) hl4'
      refine ⟨_, _, tx t, YM.yardOf t, YM.numOf (YM.ordT t 0), l, rfl, (hY11.same s1112).same sl4, ⟨t, ok, rfl, rfl⟩, by rw [YM.num_len ok.2, hkl], ⟨l4, ys, rfl, SqL.of upd_same, Paired.mapP hpw12 fun _ _ q => q.keep (Same.keepT sl4)⟩, hl4, way_dev (yard_ok ok).lk hok.1, fun Dm H13 zs s13 hDm hpm => ?_⟩
      have s1213 := sl4.trans s13
      -- sorts
      have hdue13 := s1213 _ _ (s1112 _ _ hdue11)
      refine ⟨_, rfl, _, rfl, due, _, rfl, .inl (SqL.of hdue13), fun l5 hl5 => ?_⟩
      have sl5 := Same.new (o := .lst ((YM.trow row).map V.int)) hl5
      have hDm14 := sl5 _ _ hDm
      refine ⟨_, rfl, Dm, _, rfl, .inl (SqL.of hDm14), fun l6 hl6 => ?_⟩
      have sl6 := Same.new (o := .lst zs) hl6
      have s1315 := sl5.trans sl6
      refine ⟨_, _, _, YM.trow row, _, _, _, rfl, (hYm11.same s1112).same (s1213.trans s1315), ⟨l5, rfl, SqL.of (sl6 _ _ upd_same), by omega, htr⟩, by omega, ⟨l6, zs, rfl, SqL.of upd_same, Paired.mapP hpm fun _ _ q => q.keep (Same.keepT s1315)⟩, by omega, hway, fun H16 s16 => ?_⟩
      refine ⟨_, _, rfl, rfl, _, rfl, ?_⟩
      rw [decide_eq_true rfl]
      refine iteT ?_
      have s1316 := s1315.trans s16
      refine ⟨_, rfl, Dm, _, rfl, .inl (SqL.of (s1316 _ _ hDm)), _, rfl, Dw, _, rfl, .inl (SqL.of (s1316 _ _ (s1213 _ _ hDw12))), rfl, ?_⟩
      rw [Paired.length hpm, Paired.length hpw, htlen]
      rw [decide_eq_true rfl]
      exact k _
end
end YW
namespace YW
open PySem L2
section
variable {K : PySem.W.Frag} {w : World} {h : Heap} {mg : Str → Option Value}
theorem mk_def {x : Str} {st : Stmt} {f : Addr} {oc kV dc pm cd ct : Value} {od an : Option Addr} {sl : Array (Option Value)} (X : K.In h) (G : h.Ns mainGlobals mg) (a : PySem.W.nsIn K mainGlobals x = some (some (.ref f)))
    (l : K.lookup f = some ⟨oc, od, .func (PySem.W.fnOf x x (C8.fnArgs st) (C8.fnBody st) (C8.fnScope st) .none kV dc pm an cd ct), sl⟩) (c : PySem.W.codeIn K cd x = true) (k : PySem.W.keepIn K (.ref f) = true) : IsDef K mg x st :=
  ⟨f, _, ⟨⟨oc, od, .none, kV, dc, pm, an, cd, ct, sl, rfl, l, c⟩, PySem.W.mg_of X G a, k⟩, rfl⟩
theorem mk_meth {m qual : Str} {st : Stmt} {C f : Addr} {oc kV dc pm cd ct : Value} {od an : Option Addr} {sl : Array (Option Value)} (a : PySem.W.findIn K (.ref C) m = some (some (.ref f))) (i : PySem.W.isFn K (.ref f) = true) (k : PySem.W.keepIn K (.ref f) = true)
    (l : K.lookup f = some ⟨oc, od, .func (PySem.W.fnOf m qual (C8.fnArgs st) (C8.fnBody st) (C8.fnScope st) .none kV dc pm an cd ct), sl⟩) (c : PySem.W.codeIn K cd qual = true) : IsMeth K C m qual st :=
  ⟨f, _, ⟨a, i, k⟩, ⟨oc, od, .none, kV, dc, pm, an, cd, ct, sl, rfl, l, c⟩, rfl⟩
theorem mk_init {qual : Str} {st : Stmt} {C f : Addr} {oc kV dc pm cd ct : Value} {od an : Option Addr} {sl : Array (Option Value)} (mk : PySem.W.makesIn K C = true) (a : PySem.W.findIn K (.ref C) "__init__" = some (some (.ref f))) (i : PySem.W.isFn K (.ref f) = true) (kc : PySem.W.keepIn K (.ref C) = true)
    (l : K.lookup f = some ⟨oc, od, .func (PySem.W.fnOf "__init__" qual (C8.fnArgs st) (C8.fnBody st) (C8.fnScope st) .none kV dc pm an cd ct), sl⟩) (c : PySem.W.codeIn K cd qual = true) : IsInit K C qual st :=
  ⟨f, _, ⟨mk, a, i, kc⟩, ⟨oc, od, .none, kV, dc, pm, an, cd, ct, sl, rfl, l, c⟩, rfl⟩
theorem tup1 {t : Addr} {i : Int} {k : Tok} {od : Option Addr} {n : Nat} {sl : Array (Option Value)} (l : K.lookup t = some ⟨.type "tuple", od, .seq #[.int i k] n, sl⟩) : ∀ H, SqT K H t ([i].map V.int) := fun H =>
  .inr ⟨_, _, _, l, rfl, rfl, by show 1 ≤ sizeLine; decide, .cons ⟨_, rfl⟩ .nil⟩
theorem tup2 {t : Addr} {i j : Int} {k k' : Tok} {od : Option Addr} {n : Nat} {sl : Array (Option Value)} (l : K.lookup t = some ⟨.type "tuple", od, .seq #[.int i k, .int j k'] n, sl⟩) : ∀ H, SqT K H t ([i, j].map V.int) := fun H =>
  .inr ⟨_, _, _, l, rfl, rfl, by show 2 ≤ sizeLine; decide, .cons ⟨_, rfl⟩ (.cons ⟨_, rfl⟩ .nil)⟩
theorem closing_no {d : Addr} {e1 e2 : DictEntry} {n : Nat} {k1 k2 : Tok} (l : K.lookup d = some ⟨.type "dict", none, .dict #[e1, e2] n, #[]⟩) (h1 : e1.key = .str "(" k1) (h2 : e2.key = .str "[" k2) : ∀ z : Str, z ≠ "(" → z ≠ "[" → PySem.W.nsIn K d z = some none := fun z n1 n2 => by
  have q1 : e1.key.isStr z = false := by
    rw [h1]
    show (("(" : Str) == z) = false
    exact beq_eq_false_iff_ne.mpr (Ne.symm n1)
  have q2 : e2.key.isStr z = false := by
    rw [h2]
    show (("[" : Str) == z) = false
    exact beq_eq_false_iff_ne.mpr (Ne.symm n2)
  unfold PySem.W.nsIn
  rw [l]
  show (match [e1, e2].find? (·.key.isStr z) with | some e => some (some e.val) | none => if [e1, e2].any (·.refKey) then none else some none) = some none
  rw [List.find?_cons, q1, List.find?_cons, q2]
  show (if [e1, e2].any (·.refKey) then none else some none) = some none
  have r1 : e1.refKey = false := by unfold DictEntry.refKey; rw [h1]
  have r2 : e2.refKey = false := by unfold DictEntry.refKey; rw [h2]
  simp [List.any_cons, r1, r2]
theorem law_end {l : PySem.W.OpenLaw} {fa CG CR CY CS dI dO dT dC : Addr} (T : Txt K w mg CG CR CY CS dI dO dT dC) (hfa : mg "law" = some (.ref fa)) :
    ∃ fd : FuncData, (∀ (s : Shared) (u : Value), BindsTo s fd ⟨[u], []⟩ [("_law_script", u)]) ∧ ∀ base : Heap, K.In base → base.Ns mainGlobals mg → FnOk l.prog w K mg base C8.CX0 10 fa fd ["_law_script"] (spLaw K) := by
  obtain ⟨f, fd, D, df⟩ := T.d_law
  have e := hfa.symm.trans D.mgf
  cases e
  refine ⟨fd, fun s u => ?_, fun base _ _ => fn_law T D⟩
  obtain ⟨oc, od, dV, kV, doc, pm, an, cdv, ct, osl, rfl, lk, hcd⟩ := D.fn.ex
  have e : dV = .none := df
  subst e
  exact .of_eq (b_law _ _ _ _ _ _ [u] rfl)
end
theorem all_mk {l : PySem.W.OpenLaw} {w : World} {K : PySem.W.Frag} {h : Heap} {mg : Str → Option Value} {fa CG CR CY CS dI dO dT dC f0 f1 f2 f3 f4 f5 f6 f7 f8 f9 f10 f11 f12 f13 f14 f15 f16 f17 f18 f19 f20 f21 f22 f23 f24 f25 f26 f27 f28 f29 f30 f31 f32 f33 f34 f35 f36 f37 f38 f39 f40 f41 f42 f43 f44 f45 f46 f47 f48 f49 f50 is_t os_t iq_t oq_t id_t od_t ii_t oi_t io_t oo_t : Addr} (X : K.In h) (G : h.Ns mainGlobals mg) (hfa : mg "law" = some (.ref fa))
    {od0 an0 od1 an1 od2 an2 od3 an3 od4 an4 od5 an5 od6 an6 od7 an7 od8 an8 od9 an9 od10 an10 od11 an11 od12 an12 od13 an13 od14 an14 od15 an15 od16 an16 od17 an17 od18 an18 od19 an19 od20 an20 od21 an21 od22 an22 od23 an23 od24 an24 od25 an25 od26 an26 od27 an27 od28 an28 od29 an29 od30 an30 od31 an31 od32 an32 od33 an33 od34 an34 od35 an35 od36 an36 od37 an37 od38 an38 od39 an39 od40 an40 od41 an41 od42 an42 od43 an43 od44 an44 od45 an45 od46 an46 od47 an47 od48 an48 od49 an49 od50 an50 is_d os_d iq_d oq_d id_d od_d ii_d oi_d io_d oo_d : Option Addr} {sl0 sl1 sl2 sl3 sl4 sl5 sl6 sl7 sl8 sl9 sl10 sl11 sl12 sl13 sl14 sl15 sl16 sl17 sl18 sl19 sl20 sl21 sl22 sl23 sl24 sl25 sl26 sl27 sl28 sl29 sl30 sl31 sl32 sl33 sl34 sl35 sl36 sl37 sl38 sl39 sl40 sl41 sl42 sl43 sl44 sl45 sl46 sl47 sl48 sl49 sl50 is_s os_s iq_s oq_s id_s od_s ii_s oi_s io_s oo_s : Array (Option Value)} {oc0 kV0 dc0 pm0 cd0 ct0 oc1 kV1 dc1 pm1 cd1 ct1 oc2 kV2 dc2 pm2 cd2 ct2 oc3 kV3 dc3 pm3 cd3 ct3 oc4 kV4 dc4 pm4 cd4 ct4 oc5 kV5 dc5 pm5 cd5 ct5 oc6 kV6 dc6 pm6 cd6 ct6 oc7 kV7 dc7 pm7 cd7 ct7 oc8 kV8 dc8 pm8 cd8 ct8 oc9 kV9 dc9 pm9 cd9 ct9 oc10 kV10 dc10 pm10 cd10 ct10 oc11 kV11 dc11 pm11 cd11 ct11 oc12 kV12 dc12 pm12 cd12 ct12 oc13 kV13 dc13 pm13 cd13 ct13 oc14 kV14 dc14 pm14 cd14 ct14 oc15 kV15 dc15 pm15 cd15 ct15 oc16 kV16 dc16 pm16 cd16 ct16 oc17 kV17 dc17 pm17 cd17 ct17 oc18 kV18 dc18 pm18 cd18 ct18 oc19 kV19 dc19 pm19 cd19 ct19 oc20 kV20 dc20 pm20 cd20 ct20 oc21 kV21 dc21 pm21 cd21 ct21 oc22 kV22 dc22 pm22 cd22 ct22 oc23 kV23 dc23 pm23 cd23 ct23 oc24 kV24 dc24 pm24 cd24 ct24 oc25 kV25 dc25 pm25 cd25 ct25 oc26 kV26 dc26 pm26 cd26 ct26 oc27 kV27 dc27 pm27 cd27 ct27 oc28 kV28 dc28 pm28 cd28 ct28 oc29 kV29 dc29 pm29 cd29 ct29 oc30 kV30 dc30 pm30 cd30 ct30 oc31 kV31 dc31 pm31 cd31 ct31 oc32 kV32 dc32 pm32 cd32 ct32 oc33 kV33 dc33 pm33 cd33 ct33 oc34 kV34 dc34 pm34 cd34 ct34 oc35 kV35 dc35 pm35 cd35 ct35 oc36 kV36 dc36 pm36 cd36 ct36 oc37 kV37 dc37 pm37 cd37 ct37 oc38 kV38 dc38 pm38 cd38 ct38 oc39 kV39 dc39 pm39 cd39 ct39 oc40 kV40 dc40 pm40 cd40 ct40 oc41 kV41 dc41 pm41 cd41 ct41 oc42 kV42 dc42 pm42 cd42 ct42 oc43 kV43 dc43 pm43 cd43 ct43 oc44 kV44 dc44 pm44 cd44 ct44 oc45 kV45 dc45 pm45 cd45 ct45 oc46 kV46 dc46 pm46 cd46 ct46 oc47 kV47 dc47 pm47 cd47 ct47 oc48 kV48 dc48 pm48 cd48 ct48 oc49 kV49 dc49 pm49 cd49 ct49 oc50 kV50 dc50 pm50 cd50 ct50 : Value} {t_MOST_rows t_MOST_yards t_LEFT t_OUTSIDE t_MOST_SITUATIONS t_KINDS t_BOUNDS is_k0 os_k0 us_t iq_k0 oq_k0 uq_t id_k0 id_k1 od_k0 od_k1 ud_t ii_k0 oi_k0 oi_k1 ui_t io_k0 io_k1 oo_k0 uo_t kp_t kb_t kC1_t kC2_t : Tok} {mdI mdO mdT mdC is_n os_n iq_n oq_n id_n od_n ii_n oi_n io_n oo_n : Nat} {esdI esdO esdT : Array DictEntry} {eC1 eC2 : DictEntry}
    (aCG : PySem.W.nsIn K mainGlobals "Group" = some (some (.ref CG)))
    (pgG : PySem.W.plainGet K CG Str.empty = true)
    (hdG : PySem.W.hasDictIn K CG = true)
    (poG : PySem.W.plainOver K CG = true)
    (saG : PySem.W.findIn K (.ref CG) "__setattr__" = some (some (.builtin "object.__setattr__")))
    (mkG : PySem.W.makesIn K CG = true)
    (kcG : PySem.W.keepIn K (.ref CG) = true)
    (nG_sign : PySem.W.findIn K (.ref CG) "sign" = some none)
    (nG_yards : PySem.W.findIn K (.ref CG) "yards" = some none)
    (aCR : PySem.W.nsIn K mainGlobals "Reading" = some (some (.ref CR)))
    (pgR : PySem.W.plainGet K CR Str.empty = true)
    (hdR : PySem.W.hasDictIn K CR = true)
    (poR : PySem.W.plainOver K CR = true)
    (saR : PySem.W.findIn K (.ref CR) "__setattr__" = some (some (.builtin "object.__setattr__")))
    (mkR : PySem.W.makesIn K CR = true)
    (kcR : PySem.W.keepIn K (.ref CR) = true)
    (nR_text : PySem.W.findIn K (.ref CR) "text" = some none)
    (nR_at : PySem.W.findIn K (.ref CR) "at" = some none)
    (nR_kinds : PySem.W.findIn K (.ref CR) "kinds" = some none)
    (nR_bounds : PySem.W.findIn K (.ref CR) "bounds" = some none)
    (nR_links : PySem.W.findIn K (.ref CR) "links" = some none)
    (nR_groups : PySem.W.findIn K (.ref CR) "groups" = some none)
    (aCY : PySem.W.nsIn K mainGlobals "Yard" = some (some (.ref CY)))
    (pgY : PySem.W.plainGet K CY Str.empty = true)
    (hdY : PySem.W.hasDictIn K CY = true)
    (poY : PySem.W.plainOver K CY = true)
    (saY : PySem.W.findIn K (.ref CY) "__setattr__" = some (some (.builtin "object.__setattr__")))
    (mkY : PySem.W.makesIn K CY = true)
    (kcY : PySem.W.keepIn K (.ref CY) = true)
    (nY_text : PySem.W.findIn K (.ref CY) "text" = some none)
    (nY_kinds : PySem.W.findIn K (.ref CY) "kinds" = some none)
    (nY_bounds : PySem.W.findIn K (.ref CY) "bounds" = some none)
    (nY_links : PySem.W.findIn K (.ref CY) "links" = some none)
    (aCS : PySem.W.nsIn K mainGlobals "Search" = some (some (.ref CS)))
    (pgS : PySem.W.plainGet K CS Str.empty = true)
    (hdS : PySem.W.hasDictIn K CS = true)
    (poS : PySem.W.plainOver K CS = true)
    (saS : PySem.W.findIn K (.ref CS) "__setattr__" = some (some (.builtin "object.__setattr__")))
    (mkS : PySem.W.makesIn K CS = true)
    (kcS : PySem.W.keepIn K (.ref CS) = true)
    (nS_yard : PySem.W.findIn K (.ref CS) "yard" = some none)
    (nS_wagons : PySem.W.findIn K (.ref CS) "wagons" = some none)
    (nS_met : PySem.W.findIn K (.ref CS) "met" = some none)
    (nS_known : PySem.W.findIn K (.ref CS) "known" = some none)
    (nS_origin : PySem.W.findIn K (.ref CS) "origin" = some none)
    (nS_found : PySem.W.findIn K (.ref CS) "found" = some none)
    (a0 : PySem.W.nsIn K mainGlobals "is_row" = some (some (.ref f0)))
    (l0 : K.lookup f0 = some ⟨oc0, od0, .func (PySem.W.fnOf "is_row" "is_row" (C8.fnArgs s_is_row) (C8.fnBody s_is_row) (C8.fnScope s_is_row) .none kV0 dc0 pm0 an0 cd0 ct0), sl0⟩)
    (c0 : PySem.W.codeIn K cd0 "is_row" = true)
    (k0 : PySem.W.keepIn K (.ref f0) = true)
    (a1 : PySem.W.findIn K (.ref CG) "__init__" = some (some (.ref f1)))
    (i1 : PySem.W.isFn K (.ref f1) = true)
    (l1 : K.lookup f1 = some ⟨oc1, od1, .func (PySem.W.fnOf "__init__" "Group.__init__" (C8.fnArgs s_G_init) (C8.fnBody s_G_init) (C8.fnScope s_G_init) .none kV1 dc1 pm1 an1 cd1 ct1), sl1⟩)
    (c1 : PySem.W.codeIn K cd1 "Group.__init__" = true)
    (a2 : PySem.W.findIn K (.ref CR) "__init__" = some (some (.ref f2)))
    (i2 : PySem.W.isFn K (.ref f2) = true)
    (l2 : K.lookup f2 = some ⟨oc2, od2, .func (PySem.W.fnOf "__init__" "Reading.__init__" (C8.fnArgs s_R_init) (C8.fnBody s_R_init) (C8.fnScope s_R_init) .none kV2 dc2 pm2 an2 cd2 ct2), sl2⟩)
    (c2 : PySem.W.codeIn K cd2 "Reading.__init__" = true)
    (a3 : PySem.W.findIn K (.ref CR) "sign" = some (some (.ref f3)))
    (i3 : PySem.W.isFn K (.ref f3) = true)
    (l3 : K.lookup f3 = some ⟨oc3, od3, .func (PySem.W.fnOf "sign" "Reading.sign" (C8.fnArgs s_R_sign) (C8.fnBody s_R_sign) (C8.fnScope s_R_sign) .none kV3 dc3 pm3 an3 cd3 ct3), sl3⟩)
    (c3 : PySem.W.codeIn K cd3 "Reading.sign" = true)
    (k3 : PySem.W.keepIn K (.ref f3) = true)
    (a4 : PySem.W.findIn K (.ref CR) "device" = some (some (.ref f4)))
    (i4 : PySem.W.isFn K (.ref f4) = true)
    (l4 : K.lookup f4 = some ⟨oc4, od4, .func (PySem.W.fnOf "device" "Reading.device" (C8.fnArgs s_R_device) (C8.fnBody s_R_device) (C8.fnScope s_R_device) .none kV4 dc4 pm4 an4 cd4 ct4), sl4⟩)
    (c4 : PySem.W.codeIn K cd4 "Reading.device" = true)
    (k4 : PySem.W.keepIn K (.ref f4) = true)
    (a5 : PySem.W.findIn K (.ref CR) "first_device" = some (some (.ref f5)))
    (i5 : PySem.W.isFn K (.ref f5) = true)
    (l5 : K.lookup f5 = some ⟨oc5, od5, .func (PySem.W.fnOf "first_device" "Reading.first_device" (C8.fnArgs s_R_first_device) (C8.fnBody s_R_first_device) (C8.fnScope s_R_first_device) .none kV5 dc5 pm5 an5 cd5 ct5), sl5⟩)
    (c5 : PySem.W.codeIn K cd5 "Reading.first_device" = true)
    (k5 : PySem.W.keepIn K (.ref f5) = true)
    (a6 : PySem.W.findIn K (.ref CR) "joined" = some (some (.ref f6)))
    (i6 : PySem.W.isFn K (.ref f6) = true)
    (l6 : K.lookup f6 = some ⟨oc6, od6, .func (PySem.W.fnOf "joined" "Reading.joined" (C8.fnArgs s_R_joined) (C8.fnBody s_R_joined) (C8.fnScope s_R_joined) .none kV6 dc6 pm6 an6 cd6 ct6), sl6⟩)
    (c6 : PySem.W.codeIn K cd6 "Reading.joined" = true)
    (k6 : PySem.W.keepIn K (.ref f6) = true)
    (a7 : PySem.W.findIn K (.ref CR) "closed" = some (some (.ref f7)))
    (i7 : PySem.W.isFn K (.ref f7) = true)
    (l7 : K.lookup f7 = some ⟨oc7, od7, .func (PySem.W.fnOf "closed" "Reading.closed" (C8.fnArgs s_R_closed) (C8.fnBody s_R_closed) (C8.fnScope s_R_closed) .none kV7 dc7 pm7 an7 cd7 ct7), sl7⟩)
    (c7 : PySem.W.codeIn K cd7 "Reading.closed" = true)
    (k7 : PySem.W.keepIn K (.ref f7) = true)
    (a8 : PySem.W.findIn K (.ref CR) "whole" = some (some (.ref f8)))
    (i8 : PySem.W.isFn K (.ref f8) = true)
    (l8 : K.lookup f8 = some ⟨oc8, od8, .func (PySem.W.fnOf "whole" "Reading.whole" (C8.fnArgs s_R_whole) (C8.fnBody s_R_whole) (C8.fnScope s_R_whole) .none kV8 dc8 pm8 an8 cd8 ct8), sl8⟩)
    (c8 : PySem.W.codeIn K cd8 "Reading.whole" = true)
    (k8 : PySem.W.keepIn K (.ref f8) = true)
    (a9 : PySem.W.findIn K (.ref CY) "__init__" = some (some (.ref f9)))
    (i9 : PySem.W.isFn K (.ref f9) = true)
    (l9 : K.lookup f9 = some ⟨oc9, od9, .func (PySem.W.fnOf "__init__" "Yard.__init__" (C8.fnArgs s_Y_init) (C8.fnBody s_Y_init) (C8.fnScope s_Y_init) .none kV9 dc9 pm9 an9 cd9 ct9), sl9⟩)
    (c9 : PySem.W.codeIn K cd9 "Yard.__init__" = true)
    (a10 : PySem.W.findIn K (.ref CY) "__len__" = some (some (.ref f10)))
    (i10 : PySem.W.isFn K (.ref f10) = true)
    (l10 : K.lookup f10 = some ⟨oc10, od10, .func (PySem.W.fnOf "__len__" "Yard.__len__" (C8.fnArgs s_Y_len) (C8.fnBody s_Y_len) (C8.fnScope s_Y_len) .none kV10 dc10 pm10 an10 cd10 ct10), sl10⟩)
    (c10 : PySem.W.codeIn K cd10 "Yard.__len__" = true)
    (k10 : PySem.W.keepIn K (.ref f10) = true)
    (a11 : PySem.W.findIn K (.ref CY) "ins" = some (some (.ref f11)))
    (i11 : PySem.W.isFn K (.ref f11) = true)
    (l11 : K.lookup f11 = some ⟨oc11, od11, .func (PySem.W.fnOf "ins" "Yard.ins" (C8.fnArgs s_Y_ins) (C8.fnBody s_Y_ins) (C8.fnScope s_Y_ins) .none kV11 dc11 pm11 an11 cd11 ct11), sl11⟩)
    (c11 : PySem.W.codeIn K cd11 "Yard.ins" = true)
    (k11 : PySem.W.keepIn K (.ref f11) = true)
    (a12 : PySem.W.findIn K (.ref CY) "outs" = some (some (.ref f12)))
    (i12 : PySem.W.isFn K (.ref f12) = true)
    (l12 : K.lookup f12 = some ⟨oc12, od12, .func (PySem.W.fnOf "outs" "Yard.outs" (C8.fnArgs s_Y_outs) (C8.fnBody s_Y_outs) (C8.fnScope s_Y_outs) .none kV12 dc12 pm12 an12 cd12 ct12), sl12⟩)
    (c12 : PySem.W.codeIn K cd12 "Yard.outs" = true)
    (k12 : PySem.W.keepIn K (.ref f12) = true)
    (a13 : PySem.W.findIn K (.ref CY) "room" = some (some (.ref f13)))
    (i13 : PySem.W.isFn K (.ref f13) = true)
    (l13 : K.lookup f13 = some ⟨oc13, od13, .func (PySem.W.fnOf "room" "Yard.room" (C8.fnArgs s_Y_room) (C8.fnBody s_Y_room) (C8.fnScope s_Y_room) .none kV13 dc13 pm13 an13 cd13 ct13), sl13⟩)
    (c13 : PySem.W.codeIn K cd13 "Yard.room" = true)
    (k13 : PySem.W.keepIn K (.ref f13) = true)
    (a14 : PySem.W.nsIn K mainGlobals "parts_of" = some (some (.ref f14)))
    (l14 : K.lookup f14 = some ⟨oc14, od14, .func (PySem.W.fnOf "parts_of" "parts_of" (C8.fnArgs s_parts_of) (C8.fnBody s_parts_of) (C8.fnScope s_parts_of) .none kV14 dc14 pm14 an14 cd14 ct14), sl14⟩)
    (c14 : PySem.W.codeIn K cd14 "parts_of" = true)
    (k14 : PySem.W.keepIn K (.ref f14) = true)
    (a15 : PySem.W.nsIn K mainGlobals "turned_part" = some (some (.ref f15)))
    (l15 : K.lookup f15 = some ⟨oc15, od15, .func (PySem.W.fnOf "turned_part" "turned_part" (C8.fnArgs s_turned_part) (C8.fnBody s_turned_part) (C8.fnScope s_turned_part) .none kV15 dc15 pm15 an15 cd15 ct15), sl15⟩)
    (c15 : PySem.W.codeIn K cd15 "turned_part" = true)
    (k15 : PySem.W.keepIn K (.ref f15) = true)
    (a16 : PySem.W.nsIn K mainGlobals "turned" = some (some (.ref f16)))
    (l16 : K.lookup f16 = some ⟨oc16, od16, .func (PySem.W.fnOf "turned" "turned" (C8.fnArgs s_turned) (C8.fnBody s_turned) (C8.fnScope s_turned) .none kV16 dc16 pm16 an16 cd16 ct16), sl16⟩)
    (c16 : PySem.W.codeIn K cd16 "turned" = true)
    (k16 : PySem.W.keepIn K (.ref f16) = true)
    (a17 : PySem.W.nsIn K mainGlobals "turned_order" = some (some (.ref f17)))
    (l17 : K.lookup f17 = some ⟨oc17, od17, .func (PySem.W.fnOf "turned_order" "turned_order" (C8.fnArgs s_turned_order) (C8.fnBody s_turned_order) (C8.fnScope s_turned_order) .none kV17 dc17 pm17 an17 cd17 ct17), sl17⟩)
    (c17 : PySem.W.codeIn K cd17 "turned_order" = true)
    (k17 : PySem.W.keepIn K (.ref f17) = true)
    (a18 : PySem.W.nsIn K mainGlobals "turned_numbers" = some (some (.ref f18)))
    (l18 : K.lookup f18 = some ⟨oc18, od18, .func (PySem.W.fnOf "turned_numbers" "turned_numbers" (C8.fnArgs s_turned_numbers) (C8.fnBody s_turned_numbers) (C8.fnScope s_turned_numbers) .none kV18 dc18 pm18 an18 cd18 ct18), sl18⟩)
    (c18 : PySem.W.codeIn K cd18 "turned_numbers" = true)
    (k18 : PySem.W.keepIn K (.ref f18) = true)
    (a19 : PySem.W.nsIn K mainGlobals "check_row" = some (some (.ref f19)))
    (l19 : K.lookup f19 = some ⟨oc19, od19, .func (PySem.W.fnOf "check_row" "check_row" (C8.fnArgs s_check_row) (C8.fnBody s_check_row) (C8.fnScope s_check_row) .none kV19 dc19 pm19 an19 cd19 ct19), sl19⟩)
    (c19 : PySem.W.codeIn K cd19 "check_row" = true)
    (k19 : PySem.W.keepIn K (.ref f19) = true)
    (a20 : PySem.W.nsIn K mainGlobals "first_situation" = some (some (.ref f20)))
    (l20 : K.lookup f20 = some ⟨oc20, od20, .func (PySem.W.fnOf "first_situation" "first_situation" (C8.fnArgs s_first_situation) (C8.fnBody s_first_situation) (C8.fnScope s_first_situation) .none kV20 dc20 pm20 an20 cd20 ct20), sl20⟩)
    (c20 : PySem.W.codeIn K cd20 "first_situation" = true)
    (k20 : PySem.W.keepIn K (.ref f20) = true)
    (a21 : PySem.W.nsIn K mainGlobals "source_ends" = some (some (.ref f21)))
    (l21 : K.lookup f21 = some ⟨oc21, od21, .func (PySem.W.fnOf "source_ends" "source_ends" (C8.fnArgs s_source_ends) (C8.fnBody s_source_ends) (C8.fnScope s_source_ends) .none kV21 dc21 pm21 an21 cd21 ct21), sl21⟩)
    (c21 : PySem.W.codeIn K cd21 "source_ends" = true)
    (k21 : PySem.W.keepIn K (.ref f21) = true)
    (a22 : PySem.W.nsIn K mainGlobals "target_ends" = some (some (.ref f22)))
    (l22 : K.lookup f22 = some ⟨oc22, od22, .func (PySem.W.fnOf "target_ends" "target_ends" (C8.fnArgs s_target_ends) (C8.fnBody s_target_ends) (C8.fnScope s_target_ends) .none kV22 dc22 pm22 an22 cd22 ct22), sl22⟩)
    (c22 : PySem.W.codeIn K cd22 "target_ends" = true)
    (k22 : PySem.W.keepIn K (.ref f22) = true)
    (a23 : PySem.W.nsIn K mainGlobals "possible" = some (some (.ref f23)))
    (l23 : K.lookup f23 = some ⟨oc23, od23, .func (PySem.W.fnOf "possible" "possible" (C8.fnArgs s_possible) (C8.fnBody s_possible) (C8.fnScope s_possible) .none kV23 dc23 pm23 an23 cd23 ct23), sl23⟩)
    (c23 : PySem.W.codeIn K cd23 "possible" = true)
    (k23 : PySem.W.keepIn K (.ref f23) = true)
    (a24 : PySem.W.nsIn K mainGlobals "wagon_of" = some (some (.ref f24)))
    (l24 : K.lookup f24 = some ⟨oc24, od24, .func (PySem.W.fnOf "wagon_of" "wagon_of" (C8.fnArgs s_wagon_of) (C8.fnBody s_wagon_of) (C8.fnScope s_wagon_of) .none kV24 dc24 pm24 an24 cd24 ct24), sl24⟩)
    (c24 : PySem.W.codeIn K cd24 "wagon_of" = true)
    (k24 : PySem.W.keepIn K (.ref f24) = true)
    (a25 : PySem.W.nsIn K mainGlobals "after" = some (some (.ref f25)))
    (l25 : K.lookup f25 = some ⟨oc25, od25, .func (PySem.W.fnOf "after" "after" (C8.fnArgs s_after) (C8.fnBody s_after) (C8.fnScope s_after) .none kV25 dc25 pm25 an25 cd25 ct25), sl25⟩)
    (c25 : PySem.W.codeIn K cd25 "after" = true)
    (k25 : PySem.W.keepIn K (.ref f25) = true)
    (a26 : PySem.W.nsIn K mainGlobals "is_live" = some (some (.ref f26)))
    (l26 : K.lookup f26 = some ⟨oc26, od26, .func (PySem.W.fnOf "is_live" "is_live" (C8.fnArgs s_is_live) (C8.fnBody s_is_live) (C8.fnScope s_is_live) .none kV26 dc26 pm26 an26 cd26 ct26), sl26⟩)
    (c26 : PySem.W.codeIn K cd26 "is_live" = true)
    (k26 : PySem.W.keepIn K (.ref f26) = true)
    (a27 : PySem.W.findIn K (.ref CS) "__init__" = some (some (.ref f27)))
    (i27 : PySem.W.isFn K (.ref f27) = true)
    (l27 : K.lookup f27 = some ⟨oc27, od27, .func (PySem.W.fnOf "__init__" "Search.__init__" (C8.fnArgs s_S_init) (C8.fnBody s_S_init) (C8.fnScope s_S_init) .none kV27 dc27 pm27 an27 cd27 ct27), sl27⟩)
    (c27 : PySem.W.codeIn K cd27 "Search.__init__" = true)
    (a28 : PySem.W.findIn K (.ref CS) "is_goal" = some (some (.ref f28)))
    (i28 : PySem.W.isFn K (.ref f28) = true)
    (l28 : K.lookup f28 = some ⟨oc28, od28, .func (PySem.W.fnOf "is_goal" "Search.is_goal" (C8.fnArgs s_S_is_goal) (C8.fnBody s_S_is_goal) (C8.fnScope s_S_is_goal) .none kV28 dc28 pm28 an28 cd28 ct28), sl28⟩)
    (c28 : PySem.W.codeIn K cd28 "Search.is_goal" = true)
    (k28 : PySem.W.keepIn K (.ref f28) = true)
    (a29 : PySem.W.findIn K (.ref CS) "look" = some (some (.ref f29)))
    (i29 : PySem.W.isFn K (.ref f29) = true)
    (l29 : K.lookup f29 = some ⟨oc29, od29, .func (PySem.W.fnOf "look" "Search.look" (C8.fnArgs s_S_look) (C8.fnBody s_S_look) (C8.fnScope s_S_look) .none kV29 dc29 pm29 an29 cd29 ct29), sl29⟩)
    (c29 : PySem.W.codeIn K cd29 "Search.look" = true)
    (k29 : PySem.W.keepIn K (.ref f29) = true)
    (a30 : PySem.W.findIn K (.ref CS) "finish" = some (some (.ref f30)))
    (i30 : PySem.W.isFn K (.ref f30) = true)
    (l30 : K.lookup f30 = some ⟨oc30, od30, .func (PySem.W.fnOf "finish" "Search.finish" (C8.fnArgs s_S_finish) (C8.fnBody s_S_finish) (C8.fnScope s_S_finish) .none kV30 dc30 pm30 an30 cd30 ct30), sl30⟩)
    (c30 : PySem.W.codeIn K cd30 "Search.finish" = true)
    (k30 : PySem.W.keepIn K (.ref f30) = true)
    (a31 : PySem.W.findIn K (.ref CS) "way" = some (some (.ref f31)))
    (i31 : PySem.W.isFn K (.ref f31) = true)
    (l31 : K.lookup f31 = some ⟨oc31, od31, .func (PySem.W.fnOf "way" "Search.way" (C8.fnArgs s_S_way) (C8.fnBody s_S_way) (C8.fnScope s_S_way) .none kV31 dc31 pm31 an31 cd31 ct31), sl31⟩)
    (c31 : PySem.W.codeIn K cd31 "Search.way" = true)
    (k31 : PySem.W.keepIn K (.ref f31) = true)
    (a32 : PySem.W.nsIn K mainGlobals "search_from" = some (some (.ref f32)))
    (l32 : K.lookup f32 = some ⟨oc32, od32, .func (PySem.W.fnOf "search_from" "search_from" (C8.fnArgs s_search_from) (C8.fnBody s_search_from) (C8.fnScope s_search_from) .none kV32 dc32 pm32 an32 cd32 ct32), sl32⟩)
    (c32 : PySem.W.codeIn K cd32 "search_from" = true)
    (k32 : PySem.W.keepIn K (.ref f32) = true)
    (a33 : PySem.W.nsIn K mainGlobals "solve" = some (some (.ref f33)))
    (l33 : K.lookup f33 = some ⟨oc33, od33, .func (PySem.W.fnOf "solve" "solve" (C8.fnArgs s_solve) (C8.fnBody s_solve) (C8.fnScope s_solve) .none kV33 dc33 pm33 an33 cd33 ct33), sl33⟩)
    (c33 : PySem.W.codeIn K cd33 "solve" = true)
    (k33 : PySem.W.keepIn K (.ref f33) = true)
    (a34 : PySem.W.nsIn K mainGlobals "fewest" = some (some (.ref f34)))
    (l34 : K.lookup f34 = some ⟨oc34, od34, .func (PySem.W.fnOf "fewest" "fewest" (C8.fnArgs s_fewest) (C8.fnBody s_fewest) (C8.fnScope s_fewest) .none kV34 dc34 pm34 an34 cd34 ct34), sl34⟩)
    (c34 : PySem.W.codeIn K cd34 "fewest" = true)
    (k34 : PySem.W.keepIn K (.ref f34) = true)
    (a35 : PySem.W.nsIn K mainGlobals "replay" = some (some (.ref f35)))
    (l35 : K.lookup f35 = some ⟨oc35, od35, .func (PySem.W.fnOf "replay" "replay" (C8.fnArgs s_replay) (C8.fnBody s_replay) (C8.fnScope s_replay) .none kV35 dc35 pm35 an35 cd35 ct35), sl35⟩)
    (c35 : PySem.W.codeIn K cd35 "replay" = true)
    (k35 : PySem.W.keepIn K (.ref f35) = true)
    (a36 : PySem.W.nsIn K mainGlobals "sorts" = some (some (.ref f36)))
    (l36 : K.lookup f36 = some ⟨oc36, od36, .func (PySem.W.fnOf "sorts" "sorts" (C8.fnArgs s_sorts) (C8.fnBody s_sorts) (C8.fnScope s_sorts) .none kV36 dc36 pm36 an36 cd36 ct36), sl36⟩)
    (c36 : PySem.W.codeIn K cd36 "sorts" = true)
    (k36 : PySem.W.keepIn K (.ref f36) = true)
    (a37 : PySem.W.nsIn K mainGlobals "turned_end" = some (some (.ref f37)))
    (l37 : K.lookup f37 = some ⟨oc37, od37, .func (PySem.W.fnOf "turned_end" "turned_end" (C8.fnArgs s_turned_end) (C8.fnBody s_turned_end) (C8.fnScope s_turned_end) .none kV37 dc37 pm37 an37 cd37 ct37), sl37⟩)
    (c37 : PySem.W.codeIn K cd37 "turned_end" = true)
    (k37 : PySem.W.keepIn K (.ref f37) = true)
    (a38 : PySem.W.nsIn K mainGlobals "turned_moves" = some (some (.ref f38)))
    (l38 : K.lookup f38 = some ⟨oc38, od38, .func (PySem.W.fnOf "turned_moves" "turned_moves" (C8.fnArgs s_turned_moves) (C8.fnBody s_turned_moves) (C8.fnScope s_turned_moves) .none kV38 dc38 pm38 an38 cd38 ct38), sl38⟩)
    (c38 : PySem.W.codeIn K cd38 "turned_moves" = true)
    (k38 : PySem.W.keepIn K (.ref f38) = true)
    (a39 : PySem.W.nsIn K mainGlobals "turned_row" = some (some (.ref f39)))
    (l39 : K.lookup f39 = some ⟨oc39, od39, .func (PySem.W.fnOf "turned_row" "turned_row" (C8.fnArgs s_turned_row) (C8.fnBody s_turned_row) (C8.fnScope s_turned_row) .none kV39 dc39 pm39 an39 cd39 ct39), sl39⟩)
    (c39 : PySem.W.codeIn K cd39 "turned_row" = true)
    (k39 : PySem.W.keepIn K (.ref f39) = true)
    (a40 : PySem.W.nsIn K mainGlobals "_law_number" = some (some (.ref f40)))
    (l40 : K.lookup f40 = some ⟨oc40, od40, .func (PySem.W.fnOf "_law_number" "_law_number" (C8.fnArgs s_law_number) (C8.fnBody s_law_number) (C8.fnScope s_law_number) .none kV40 dc40 pm40 an40 cd40 ct40), sl40⟩)
    (c40 : PySem.W.codeIn K cd40 "_law_number" = true)
    (k40 : PySem.W.keepIn K (.ref f40) = true)
    (a41 : PySem.W.nsIn K mainGlobals "_law_draws" = some (some (.ref f41)))
    (l41 : K.lookup f41 = some ⟨oc41, od41, .func (PySem.W.fnOf "_law_draws" "_law_draws" (C8.fnArgs s_law_draws) (C8.fnBody s_law_draws) (C8.fnScope s_law_draws) .none kV41 dc41 pm41 an41 cd41 ct41), sl41⟩)
    (c41 : PySem.W.codeIn K cd41 "_law_draws" = true)
    (k41 : PySem.W.keepIn K (.ref f41) = true)
    (a42 : PySem.W.nsIn K mainGlobals "_law_next" = some (some (.ref f42)))
    (l42 : K.lookup f42 = some ⟨oc42, od42, .func (PySem.W.fnOf "_law_next" "_law_next" (C8.fnArgs s_law_next) (C8.fnBody s_law_next) (C8.fnScope s_law_next) .none kV42 dc42 pm42 an42 cd42 ct42), sl42⟩)
    (c42 : PySem.W.codeIn K cd42 "_law_next" = true)
    (k42 : PySem.W.keepIn K (.ref f42) = true)
    (a43 : PySem.W.nsIn K mainGlobals "_law_tree" = some (some (.ref f43)))
    (l43 : K.lookup f43 = some ⟨oc43, od43, .func (PySem.W.fnOf "_law_tree" "_law_tree" (C8.fnArgs s_law_tree) (C8.fnBody s_law_tree) (C8.fnScope s_law_tree) .none kV43 dc43 pm43 an43 cd43 ct43), sl43⟩)
    (c43 : PySem.W.codeIn K cd43 "_law_tree" = true)
    (k43 : PySem.W.keepIn K (.ref f43) = true)
    (a44 : PySem.W.nsIn K mainGlobals "_law_told" = some (some (.ref f44)))
    (l44 : K.lookup f44 = some ⟨oc44, od44, .func (PySem.W.fnOf "_law_told" "_law_told" (C8.fnArgs s_law_told) (C8.fnBody s_law_told) (C8.fnScope s_law_told) .none kV44 dc44 pm44 an44 cd44 ct44), sl44⟩)
    (c44 : PySem.W.codeIn K cd44 "_law_told" = true)
    (k44 : PySem.W.keepIn K (.ref f44) = true)
    (a45 : PySem.W.nsIn K mainGlobals "_law_net" = some (some (.ref f45)))
    (l45 : K.lookup f45 = some ⟨oc45, od45, .func (PySem.W.fnOf "_law_net" "_law_net" (C8.fnArgs s_law_net) (C8.fnBody s_law_net) (C8.fnScope s_law_net) .none kV45 dc45 pm45 an45 cd45 ct45), sl45⟩)
    (c45 : PySem.W.codeIn K cd45 "_law_net" = true)
    (k45 : PySem.W.keepIn K (.ref f45) = true)
    (a46 : PySem.W.nsIn K mainGlobals "_law_plan" = some (some (.ref f46)))
    (l46 : K.lookup f46 = some ⟨oc46, od46, .func (PySem.W.fnOf "_law_plan" "_law_plan" (C8.fnArgs s_law_plan) (C8.fnBody s_law_plan) (C8.fnScope s_law_plan) .none kV46 dc46 pm46 an46 cd46 ct46), sl46⟩)
    (c46 : PySem.W.codeIn K cd46 "_law_plan" = true)
    (k46 : PySem.W.keepIn K (.ref f46) = true)
    (a47 : PySem.W.nsIn K mainGlobals "_law_row" = some (some (.ref f47)))
    (l47 : K.lookup f47 = some ⟨oc47, od47, .func (PySem.W.fnOf "_law_row" "_law_row" (C8.fnArgs s_law_row) (C8.fnBody s_law_row) (C8.fnScope s_law_row) .none kV47 dc47 pm47 an47 cd47 ct47), sl47⟩)
    (c47 : PySem.W.codeIn K cd47 "_law_row" = true)
    (k47 : PySem.W.keepIn K (.ref f47) = true)
    (a48 : PySem.W.nsIn K mainGlobals "_law_drawn" = some (some (.ref f48)))
    (l48 : K.lookup f48 = some ⟨oc48, od48, .func (PySem.W.fnOf "_law_drawn" "_law_drawn" (C8.fnArgs s_law_drawn) (C8.fnBody s_law_drawn) (C8.fnScope s_law_drawn) .none kV48 dc48 pm48 an48 cd48 ct48), sl48⟩)
    (c48 : PySem.W.codeIn K cd48 "_law_drawn" = true)
    (k48 : PySem.W.keepIn K (.ref f48) = true)
    (a49 : PySem.W.nsIn K mainGlobals "_law_turned_row" = some (some (.ref f49)))
    (l49 : K.lookup f49 = some ⟨oc49, od49, .func (PySem.W.fnOf "_law_turned_row" "_law_turned_row" (C8.fnArgs s_law_turned_row) (C8.fnBody s_law_turned_row) (C8.fnScope s_law_turned_row) .none kV49 dc49 pm49 an49 cd49 ct49), sl49⟩)
    (c49 : PySem.W.codeIn K cd49 "_law_turned_row" = true)
    (k49 : PySem.W.keepIn K (.ref f49) = true)
    (a50 : PySem.W.nsIn K mainGlobals "law" = some (some (.ref f50)))
    (l50 : K.lookup f50 = some ⟨oc50, od50, .func (PySem.W.fnOf "law" "law" (C8.fnArgs s_law) (C8.fnBody s_law) (C8.fnScope s_law) .none kV50 dc50 pm50 an50 cd50 ct50), sl50⟩)
    (c50 : PySem.W.codeIn K cd50 "law" = true)
    (k50 : PySem.W.keepIn K (.ref f50) = true)
    (v_MOST_rows : PySem.W.nsIn K mainGlobals "MOST_rows" = some (some (.int 60 t_MOST_rows)))
    (v_MOST_yards : PySem.W.nsIn K mainGlobals "MOST_yards" = some (some (.int 8 t_MOST_yards)))
    (v_LEFT : PySem.W.nsIn K mainGlobals "LEFT" = some (some (.int 0 t_LEFT)))
    (v_OUTSIDE : PySem.W.nsIn K mainGlobals "OUTSIDE" = some (some (.int (-1) t_OUTSIDE)))
    (v_MOST_SITUATIONS : PySem.W.nsIn K mainGlobals "MOST_SITUATIONS" = some (some (.int 4000 t_MOST_SITUATIONS)))
    (v_KINDS : PySem.W.nsIn K mainGlobals "KINDS" = some (some (.str "sqdio" t_KINDS)))
    (v_BOUNDS : PySem.W.nsIn K mainGlobals "BOUNDS" = some (some (.str "123456" t_BOUNDS)))
    (z_len : PySem.W.nsIn K mainGlobals "len" = some none)
    (z_sorted : PySem.W.nsIn K mainGlobals "sorted" = some none)
    (z_list : PySem.W.nsIn K mainGlobals "list" = some none)
    (z_range : PySem.W.nsIn K mainGlobals "range" = some none)
    (z_tuple : PySem.W.nsIn K mainGlobals "tuple" = some none)
    (z_enumerate : PySem.W.nsIn K mainGlobals "enumerate" = some none)
    (z_int : PySem.W.nsIn K mainGlobals "int" = some none)
    (z_str : PySem.W.nsIn K mainGlobals "str" = some none)
    (z_min : PySem.W.nsIn K mainGlobals "min" = some none)
    (adI : PySem.W.nsIn K mainGlobals "INS" = some (some (.ref dI)))
    (ldI : K.lookup dI = some ⟨.type "dict", none, .dict esdI mdI, #[]⟩)
    (qdI : PySem.W.KeysLit w.params (esdI : Array DictEntry).toList)
    (wdI : (dI == sysModules) = false)
    (adO : PySem.W.nsIn K mainGlobals "OUTS" = some (some (.ref dO)))
    (ldO : K.lookup dO = some ⟨.type "dict", none, .dict esdO mdO, #[]⟩)
    (qdO : PySem.W.KeysLit w.params (esdO : Array DictEntry).toList)
    (wdO : (dO == sysModules) = false)
    (adT : PySem.W.nsIn K mainGlobals "TURNED" = some (some (.ref dT)))
    (ldT : K.lookup dT = some ⟨.type "dict", none, .dict esdT mdT, #[]⟩)
    (qdT : PySem.W.KeysLit w.params (esdT : Array DictEntry).toList)
    (wdT : (dT == sysModules) = false)
    (adC : PySem.W.nsIn K mainGlobals "CLOSING" = some (some (.ref dC)))
    (ldC : K.lookup dC = some ⟨.type "dict", none, .dict #[eC1, eC2] mdC, #[]⟩)
    (qdC : PySem.W.KeysLit w.params (#[eC1, eC2] : Array DictEntry).toList)
    (wdC : (dC == sysModules) = false)
    (is_a : PySem.W.nsIn K dI "s" = some (some (.ref is_t)))
    (is_l : K.lookup is_t = some ⟨.type "tuple", is_d, .seq #[.int 1 is_k0] is_n, is_s⟩)
    (os_a : PySem.W.nsIn K dO "s" = some (some (.ref os_t)))
    (os_l : K.lookup os_t = some ⟨.type "tuple", os_d, .seq #[.int 1 os_k0] os_n, os_s⟩)
    (us_a : PySem.W.nsIn K dT "s" = some (some (.str "s" us_t)))
    (iq_a : PySem.W.nsIn K dI "q" = some (some (.ref iq_t)))
    (iq_l : K.lookup iq_t = some ⟨.type "tuple", iq_d, .seq #[.int 1 iq_k0] iq_n, iq_s⟩)
    (oq_a : PySem.W.nsIn K dO "q" = some (some (.ref oq_t)))
    (oq_l : K.lookup oq_t = some ⟨.type "tuple", oq_d, .seq #[.int 0 oq_k0] oq_n, oq_s⟩)
    (uq_a : PySem.W.nsIn K dT "q" = some (some (.str "q" uq_t)))
    (id_a : PySem.W.nsIn K dI "d" = some (some (.ref id_t)))
    (id_l : K.lookup id_t = some ⟨.type "tuple", id_d, .seq #[.int 0 id_k0, .int 1 id_k1] id_n, id_s⟩)
    (od_a : PySem.W.nsIn K dO "d" = some (some (.ref od_t)))
    (od_l : K.lookup od_t = some ⟨.type "tuple", od_d, .seq #[.int 0 od_k0, .int 1 od_k1] od_n, od_s⟩)
    (ud_a : PySem.W.nsIn K dT "d" = some (some (.str "d" ud_t)))
    (ii_a : PySem.W.nsIn K dI "i" = some (some (.ref ii_t)))
    (ii_l : K.lookup ii_t = some ⟨.type "tuple", ii_d, .seq #[.int 1 ii_k0] ii_n, ii_s⟩)
    (oi_a : PySem.W.nsIn K dO "i" = some (some (.ref oi_t)))
    (oi_l : K.lookup oi_t = some ⟨.type "tuple", oi_d, .seq #[.int 0 oi_k0, .int 1 oi_k1] oi_n, oi_s⟩)
    (ui_a : PySem.W.nsIn K dT "i" = some (some (.str "o" ui_t)))
    (io_a : PySem.W.nsIn K dI "o" = some (some (.ref io_t)))
    (io_l : K.lookup io_t = some ⟨.type "tuple", io_d, .seq #[.int 0 io_k0, .int 1 io_k1] io_n, io_s⟩)
    (oo_a : PySem.W.nsIn K dO "o" = some (some (.ref oo_t)))
    (oo_l : K.lookup oo_t = some ⟨.type "tuple", oo_d, .seq #[.int 1 oo_k0] oo_n, oo_s⟩)
    (uo_a : PySem.W.nsIn K dT "o" = some (some (.str "i" uo_t)))
    (kp_a : PySem.W.nsIn K dC "(" = some (some (.str ")" kp_t)))
    (kb_a : PySem.W.nsIn K dC "[" = some (some (.str "]" kb_t)))
    (kC1 : eC1.key = .str "(" kC1_t)
    (kC2 : eC2.key = .str "[" kC2_t)
    : ∃ fd : FuncData, (∀ (s : Shared) (u : Value), BindsTo s fd ⟨[u], []⟩ [("_law_script", u)]) ∧ ∀ base : Heap, K.In base → base.Ns mainGlobals mg → FnOk l.prog w K mg base C8.CX0 10 fa fd ["_law_script"] (spLaw K) := by
  have T : Txt K w mg CG CR CY CS dI dO dT dC := {
    c_G := ⟨pgG, hdG, poG, saG⟩
    g_G := PySem.W.mg_of X G aCG
    a_G_sign := nG_sign
    a_G_yards := nG_yards
    c_R := ⟨pgR, hdR, poR, saR⟩
    g_R := PySem.W.mg_of X G aCR
    a_R_text := nR_text
    a_R_at := nR_at
    a_R_kinds := nR_kinds
    a_R_bounds := nR_bounds
    a_R_links := nR_links
    a_R_groups := nR_groups
    c_Y := ⟨pgY, hdY, poY, saY⟩
    g_Y := PySem.W.mg_of X G aCY
    a_Y_text := nY_text
    a_Y_kinds := nY_kinds
    a_Y_bounds := nY_bounds
    a_Y_links := nY_links
    c_S := ⟨pgS, hdS, poS, saS⟩
    g_S := PySem.W.mg_of X G aCS
    a_S_yard := nS_yard
    a_S_wagons := nS_wagons
    a_S_met := nS_met
    a_S_known := nS_known
    a_S_origin := nS_origin
    a_S_found := nS_found
    d_is_row := mk_def X G a0 l0 c0 k0
    d_G_init := mk_init mkG a1 i1 kcG l1 c1
    d_R_init := mk_init mkR a2 i2 kcR l2 c2
    d_R_sign := mk_meth a3 i3 k3 l3 c3
    d_R_device := mk_meth a4 i4 k4 l4 c4
    d_R_first_device := mk_meth a5 i5 k5 l5 c5
    d_R_joined := mk_meth a6 i6 k6 l6 c6
    d_R_closed := mk_meth a7 i7 k7 l7 c7
    d_R_whole := mk_meth a8 i8 k8 l8 c8
    d_Y_init := mk_init mkY a9 i9 kcY l9 c9
    d_Y_len := mk_meth a10 i10 k10 l10 c10
    d_Y_ins := mk_meth a11 i11 k11 l11 c11
    d_Y_outs := mk_meth a12 i12 k12 l12 c12
    d_Y_room := mk_meth a13 i13 k13 l13 c13
    d_parts_of := mk_def X G a14 l14 c14 k14
    d_turned_part := mk_def X G a15 l15 c15 k15
    d_turned := mk_def X G a16 l16 c16 k16
    d_turned_order := mk_def X G a17 l17 c17 k17
    d_turned_numbers := mk_def X G a18 l18 c18 k18
    d_check_row := mk_def X G a19 l19 c19 k19
    d_first_situation := mk_def X G a20 l20 c20 k20
    d_source_ends := mk_def X G a21 l21 c21 k21
    d_target_ends := mk_def X G a22 l22 c22 k22
    d_possible := mk_def X G a23 l23 c23 k23
    d_wagon_of := mk_def X G a24 l24 c24 k24
    d_after := mk_def X G a25 l25 c25 k25
    d_is_live := mk_def X G a26 l26 c26 k26
    d_S_init := mk_init mkS a27 i27 kcS l27 c27
    d_S_is_goal := mk_meth a28 i28 k28 l28 c28
    d_S_look := mk_meth a29 i29 k29 l29 c29
    d_S_finish := mk_meth a30 i30 k30 l30 c30
    d_S_way := mk_meth a31 i31 k31 l31 c31
    d_search_from := mk_def X G a32 l32 c32 k32
    d_solve := mk_def X G a33 l33 c33 k33
    d_fewest := mk_def X G a34 l34 c34 k34
    d_replay := mk_def X G a35 l35 c35 k35
    d_sorts := mk_def X G a36 l36 c36 k36
    d_turned_end := mk_def X G a37 l37 c37 k37
    d_turned_moves := mk_def X G a38 l38 c38 k38
    d_turned_row := mk_def X G a39 l39 c39 k39
    d_law_number := mk_def X G a40 l40 c40 k40
    d_law_draws := mk_def X G a41 l41 c41 k41
    d_law_next := mk_def X G a42 l42 c42 k42
    d_law_tree := mk_def X G a43 l43 c43 k43
    d_law_told := mk_def X G a44 l44 c44 k44
    d_law_net := mk_def X G a45 l45 c45 k45
    d_law_plan := mk_def X G a46 l46 c46 k46
    d_law_row := mk_def X G a47 l47 c47 k47
    d_law_drawn := mk_def X G a48 l48 c48 k48
    d_law_turned_row := mk_def X G a49 l49 c49 k49
    d_law := mk_def X G a50 l50 c50 k50
    v_MOST_rows := ⟨_, PySem.W.mg_of X G v_MOST_rows, ⟨_, rfl⟩⟩
    v_MOST_yards := ⟨_, PySem.W.mg_of X G v_MOST_yards, ⟨_, rfl⟩⟩
    v_LEFT := ⟨_, PySem.W.mg_of X G v_LEFT, ⟨_, rfl⟩⟩
    v_OUTSIDE := ⟨_, PySem.W.mg_of X G v_OUTSIDE, ⟨_, rfl⟩⟩
    v_MOST_SITUATIONS := ⟨_, PySem.W.mg_of X G v_MOST_SITUATIONS, ⟨_, rfl⟩⟩
    v_KINDS := ⟨_, PySem.W.mg_of X G v_KINDS, ⟨_, rfl⟩⟩
    v_BOUNDS := ⟨_, PySem.W.mg_of X G v_BOUNDS, ⟨_, rfl⟩⟩
    z_len := PySem.W.mg_none_of X G z_len
    z_sorted := PySem.W.mg_none_of X G z_sorted
    z_list := PySem.W.mg_none_of X G z_list
    z_range := PySem.W.mg_none_of X G z_range
    z_tuple := PySem.W.mg_none_of X G z_tuple
    z_enumerate := PySem.W.mg_none_of X G z_enumerate
    z_int := PySem.W.mg_none_of X G z_int
    z_str := PySem.W.mg_none_of X G z_str
    z_min := PySem.W.mg_none_of X G z_min
    t_INS := ⟨PySem.W.mg_of X G adI, _, _, ⟨ldI, qdI, wdI⟩⟩
    t_OUTS := ⟨PySem.W.mg_of X G adO, _, _, ⟨ldO, qdO, wdO⟩⟩
    t_TURNED := ⟨PySem.W.mg_of X G adT, _, _, ⟨ldT, qdT, wdT⟩⟩
    t_CLOSING := ⟨PySem.W.mg_of X G adC, _, _, ⟨ldC, qdC, wdC⟩⟩
    i_s := ⟨_, is_a, tup1 is_l⟩
    o_s := ⟨_, os_a, tup1 os_l⟩
    u_s := ⟨_, us_a⟩
    i_q := ⟨_, iq_a, tup1 iq_l⟩
    o_q := ⟨_, oq_a, tup1 oq_l⟩
    u_q := ⟨_, uq_a⟩
    i_d := ⟨_, id_a, tup2 id_l⟩
    o_d := ⟨_, od_a, tup2 od_l⟩
    u_d := ⟨_, ud_a⟩
    i_i := ⟨_, ii_a, tup1 ii_l⟩
    o_i := ⟨_, oi_a, tup2 oi_l⟩
    u_i := ⟨_, ui_a⟩
    i_o := ⟨_, io_a, tup2 io_l⟩
    o_o := ⟨_, oo_a, tup1 oo_l⟩
    u_o := ⟨_, uo_a⟩
    k_par := ⟨_, kp_a⟩
    k_bra := ⟨_, kb_a⟩
    k_no := closing_no ldC kC1 kC2
  }
  exact law_end T hfa
end YW
open PySem PySem.W PyProof.Rows
set_option maxRecDepth 100000 in
set_option maxHeartbeats 0 in
open_top hd for PySem.Challenge.rw_yardsort_k25_whole_turned_yards
open PySem PySem.W PyProof.Rows
set_option maxHeartbeats 0 in
theorem PySem.Challenge.cw_yardsort_k25_whole_turned_yards_holds : PySem.Challenge.rw_yardsort_k25_whole_turned_yards.Holds :=
  hd (by
  k_fill
  refine @L2.walk_ofK PySem.Challenge.rw_yardsort_k25_whole_turned_yards 63 10 _ _ _ _ _ _ C8.CX0 YW.spLaw "_law_script" rfl (by decide) rfl ⟨rfl, by decide, by decide⟩ (fun w h Y => PySem.W.kIn_of Y) ?F (fun K H a ns hl _ hS => ⟨a, ns, rfl, hS, hl, fun _ => rfl⟩) fun _ _ _ _ z => z
  case F =>
    intro w mg fa h KX G hmg
    refine' YW.all_mk (w := w) KX G hmg ?aCG ?pgG ?hdG ?poG ?saG ?mkG ?kcG ?nG_sign ?nG_yards ?aCR ?pgR ?hdR ?poR ?saR ?mkR ?kcR ?nR_text ?nR_at ?nR_kinds ?nR_bounds ?nR_links ?nR_groups ?aCY ?pgY ?hdY ?poY ?saY ?mkY ?kcY ?nY_text ?nY_kinds ?nY_bounds ?nY_links ?aCS ?pgS ?hdS ?poS ?saS ?mkS ?kcS ?nS_yard ?nS_wagons ?nS_met ?nS_known ?nS_origin ?nS_found ?a0 ?l0 ?c0 ?k0 ?a1 ?i1 ?l1 ?c1 ?a2 ?i2 ?l2 ?c2 ?a3 ?i3 ?l3 ?c3 ?k3 ?a4 ?i4 ?l4 ?c4 ?k4 ?a5 ?i5 ?l5 ?c5 ?k5 ?a6 ?i6 ?l6 ?c6 ?k6 ?a7 ?i7 ?l7 ?c7 ?k7 ?a8 ?i8 ?l8 ?c8 ?k8 ?a9 ?i9 ?l9 ?c9 ?a10 ?i10 ?l10 ?c10 ?k10 ?a11 ?i11 ?l11 ?c11 ?k11 ?a12 ?i12 ?l12 ?c12 ?k12 ?a13 ?i13 ?l13 ?c13 ?k13 ?a14 ?l14 ?c14 ?k14 ?a15 ?l15 ?c15 ?k15 ?a16 ?l16 ?c16 ?k16 ?a17 ?l17 ?c17 ?k17 ?a18 ?l18 ?c18 ?k18 ?a19 ?l19 ?c19 ?k19 ?a20 ?l20 ?c20 ?k20 ?a21 ?l21 ?c21 ?k21 ?a22 ?l22 ?c22 ?k22 ?a23 ?l23 ?c23 ?k23 ?a24 ?l24 ?c24 ?k24 ?a25 ?l25 ?c25 ?k25 ?a26 ?l26 ?c26 ?k26 ?a27 ?i27 ?l27 ?c27 ?a28 ?i28 ?l28 ?c28 ?k28 ?a29 ?i29 ?l29 ?c29 ?k29 ?a30 ?i30 ?l30 ?c30 ?k30 ?a31 ?i31 ?l31 ?c31 ?k31 ?a32 ?l32 ?c32 ?k32 ?a33 ?l33 ?c33 ?k33 ?a34 ?l34 ?c34 ?k34 ?a35 ?l35 ?c35 ?k35 ?a36 ?l36 ?c36 ?k36 ?a37 ?l37 ?c37 ?k37 ?a38 ?l38 ?c38 ?k38 ?a39 ?l39 ?c39 ?k39 ?a40 ?l40 ?c40 ?k40 ?a41 ?l41 ?c41 ?k41 ?a42 ?l42 ?c42 ?k42 ?a43 ?l43 ?c43 ?k43 ?a44 ?l44 ?c44 ?k44 ?a45 ?l45 ?c45 ?k45 ?a46 ?l46 ?c46 ?k46 ?a47 ?l47 ?c47 ?k47 ?a48 ?l48 ?c48 ?k48 ?a49 ?l49 ?c49 ?k49 ?a50 ?l50 ?c50 ?k50 ?v_MOST_rows ?v_MOST_yards ?v_LEFT ?v_OUTSIDE ?v_MOST_SITUATIONS ?v_KINDS ?v_BOUNDS ?z_len ?z_sorted ?z_list ?z_range ?z_tuple ?z_enumerate ?z_int ?z_str ?z_min ?adI ?ldI ?qdI ?wdI ?adO ?ldO ?qdO ?wdO ?adT ?ldT ?qdT ?wdT ?adC ?ldC ?qdC ?wdC ?is_a ?is_l ?os_a ?os_l ?us_a ?iq_a ?iq_l ?oq_a ?oq_l ?uq_a ?id_a ?id_l ?od_a ?od_l ?ud_a ?ii_a ?ii_l ?oi_a ?oi_l ?ui_a ?io_a ?io_l ?oo_a ?oo_l ?uo_a ?kp_a ?kb_a ?kC1 ?kC2
    (case aCG => k_is)
    (case pgG => k_is)
    (case hdG => k_is)
    (case poG => k_is)
    (case saG => k_is)
    (case mkG => k_is)
    (case kcG => k_is)
    (case nG_sign => k_is)
    (case nG_yards => k_is)
    (case aCR => k_is)
    (case pgR => k_is)
    (case hdR => k_is)
    (case poR => k_is)
    (case saR => k_is)
    (case mkR => k_is)
    (case kcR => k_is)
    (case nR_text => k_is)
    (case nR_at => k_is)
    (case nR_kinds => k_is)
    (case nR_bounds => k_is)
    (case nR_links => k_is)
    (case nR_groups => k_is)
    (case aCY => k_is)
    (case pgY => k_is)
    (case hdY => k_is)
    (case poY => k_is)
    (case saY => k_is)
    (case mkY => k_is)
    (case kcY => k_is)
    (case nY_text => k_is)
    (case nY_kinds => k_is)
    (case nY_bounds => k_is)
    (case nY_links => k_is)
    (case aCS => k_is)
    (case pgS => k_is)
    (case hdS => k_is)
    (case poS => k_is)
    (case saS => k_is)
    (case mkS => k_is)
    (case kcS => k_is)
    (case nS_yard => k_is)
    (case nS_wagons => k_is)
    (case nS_met => k_is)
    (case nS_known => k_is)
    (case nS_origin => k_is)
    (case nS_found => k_is)
    (case a0 => k_is)
    (case l0 => k_is)
    (case c0 => k_is)
    (case k0 => k_is)
    (case a1 => k_is)
    (case i1 => k_is)
    (case l1 => k_is)
    (case c1 => k_is)
    (case a2 => k_is)
    (case i2 => k_is)
    (case l2 => k_is)
    (case c2 => k_is)
    (case a3 => k_is)
    (case i3 => k_is)
    (case l3 => k_is)
    (case c3 => k_is)
    (case k3 => k_is)
    (case a4 => k_is)
    (case i4 => k_is)
    (case l4 => k_is)
    (case c4 => k_is)
    (case k4 => k_is)
    (case a5 => k_is)
    (case i5 => k_is)
    (case l5 => k_is)
    (case c5 => k_is)
    (case k5 => k_is)
    (case a6 => k_is)
    (case i6 => k_is)
    (case l6 => k_is)
    (case c6 => k_is)
    (case k6 => k_is)
    (case a7 => k_is)
    (case i7 => k_is)
    (case l7 => k_is)
    (case c7 => k_is)
    (case k7 => k_is)
    (case a8 => k_is)
    (case i8 => k_is)
    (case l8 => k_is)
    (case c8 => k_is)
    (case k8 => k_is)
    (case a9 => k_is)
    (case i9 => k_is)
    (case l9 => k_is)
    (case c9 => k_is)
    (case a10 => k_is)
    (case i10 => k_is)
    (case l10 => k_is)
    (case c10 => k_is)
    (case k10 => k_is)
    (case a11 => k_is)
    (case i11 => k_is)
    (case l11 => k_is)
    (case c11 => k_is)
    (case k11 => k_is)
    (case a12 => k_is)
    (case i12 => k_is)
    (case l12 => k_is)
    (case c12 => k_is)
    (case k12 => k_is)
    (case a13 => k_is)
    (case i13 => k_is)
    (case l13 => k_is)
    (case c13 => k_is)
    (case k13 => k_is)
    (case a14 => k_is)
    (case l14 => k_is)
    (case c14 => k_is)
    (case k14 => k_is)
    (case a15 => k_is)
    (case l15 => k_is)
    (case c15 => k_is)
    (case k15 => k_is)
    (case a16 => k_is)
    (case l16 => k_is)
    (case c16 => k_is)
    (case k16 => k_is)
    (case a17 => k_is)
    (case l17 => k_is)
    (case c17 => k_is)
    (case k17 => k_is)
    (case a18 => k_is)
    (case l18 => k_is)
    (case c18 => k_is)
    (case k18 => k_is)
    (case a19 => k_is)
    (case l19 => k_is)
    (case c19 => k_is)
    (case k19 => k_is)
    (case a20 => k_is)
    (case l20 => k_is)
    (case c20 => k_is)
    (case k20 => k_is)
    (case a21 => k_is)
    (case l21 => k_is)
    (case c21 => k_is)
    (case k21 => k_is)
    (case a22 => k_is)
    (case l22 => k_is)
    (case c22 => k_is)
    (case k22 => k_is)
    (case a23 => k_is)
    (case l23 => k_is)
    (case c23 => k_is)
    (case k23 => k_is)
    (case a24 => k_is)
    (case l24 => k_is)
    (case c24 => k_is)
    (case k24 => k_is)
    (case a25 => k_is)
    (case l25 => k_is)
    (case c25 => k_is)
    (case k25 => k_is)
    (case a26 => k_is)
    (case l26 => k_is)
    (case c26 => k_is)
    (case k26 => k_is)
    (case a27 => k_is)
    (case i27 => k_is)
    (case l27 => k_is)
    (case c27 => k_is)
    (case a28 => k_is)
    (case i28 => k_is)
    (case l28 => k_is)
    (case c28 => k_is)
    (case k28 => k_is)
    (case a29 => k_is)
    (case i29 => k_is)
    (case l29 => k_is)
    (case c29 => k_is)
    (case k29 => k_is)
    (case a30 => k_is)
    (case i30 => k_is)
    (case l30 => k_is)
    (case c30 => k_is)
    (case k30 => k_is)
    (case a31 => k_is)
    (case i31 => k_is)
    (case l31 => k_is)
    (case c31 => k_is)
    (case k31 => k_is)
    (case a32 => k_is)
    (case l32 => k_is)
    (case c32 => k_is)
    (case k32 => k_is)
    (case a33 => k_is)
    (case l33 => k_is)
    (case c33 => k_is)
    (case k33 => k_is)
    (case a34 => k_is)
    (case l34 => k_is)
    (case c34 => k_is)
    (case k34 => k_is)
    (case a35 => k_is)
    (case l35 => k_is)
    (case c35 => k_is)
    (case k35 => k_is)
    (case a36 => k_is)
    (case l36 => k_is)
    (case c36 => k_is)
    (case k36 => k_is)
    (case a37 => k_is)
    (case l37 => k_is)
    (case c37 => k_is)
    (case k37 => k_is)
    (case a38 => k_is)
    (case l38 => k_is)
    (case c38 => k_is)
    (case k38 => k_is)
    (case a39 => k_is)
    (case l39 => k_is)
    (case c39 => k_is)
    (case k39 => k_is)
    (case a40 => k_is)
    (case l40 => k_is)
    (case c40 => k_is)
    (case k40 => k_is)
    (case a41 => k_is)
    (case l41 => k_is)
    (case c41 => k_is)
    (case k41 => k_is)
    (case a42 => k_is)
    (case l42 => k_is)
    (case c42 => k_is)
    (case k42 => k_is)
    (case a43 => k_is)
    (case l43 => k_is)
    (case c43 => k_is)
    (case k43 => k_is)
    (case a44 => k_is)
    (case l44 => k_is)
    (case c44 => k_is)
    (case k44 => k_is)
    (case a45 => k_is)
    (case l45 => k_is)
    (case c45 => k_is)
    (case k45 => k_is)
    (case a46 => k_is)
    (case l46 => k_is)
    (case c46 => k_is)
    (case k46 => k_is)
    (case a47 => k_is)
    (case l47 => k_is)
    (case c47 => k_is)
    (case k47 => k_is)
    (case a48 => k_is)
    (case l48 => k_is)
    (case c48 => k_is)
    (case k48 => k_is)
    (case a49 => k_is)
    (case l49 => k_is)
    (case c49 => k_is)
    (case k49 => k_is)
    (case a50 => k_is)
    (case l50 => k_is)
    (case c50 => k_is)
    (case k50 => k_is)
    (case v_MOST_rows => k_is)
    (case v_MOST_yards => k_is)
    (case v_LEFT => k_is)
    (case v_OUTSIDE => k_is)
    (case v_MOST_SITUATIONS => k_is)
    (case v_KINDS => k_is)
    (case v_BOUNDS => k_is)
    (case z_len => k_is)
    (case z_sorted => k_is)
    (case z_list => k_is)
    (case z_range => k_is)
    (case z_tuple => k_is)
    (case z_enumerate => k_is)
    (case z_int => k_is)
    (case z_str => k_is)
    (case z_min => k_is)
    (case adI => k_is)
    (case ldI => k_is)
    (case qdI => exact ⟨⟨_, _, rfl, rfl⟩, ⟨_, _, rfl, rfl⟩, ⟨_, _, rfl, rfl⟩, ⟨_, _, rfl, rfl⟩, ⟨_, _, rfl, rfl⟩, trivial⟩)
    (case wdI => decide)
    (case adO => k_is)
    (case ldO => k_is)
    (case qdO => exact ⟨⟨_, _, rfl, rfl⟩, ⟨_, _, rfl, rfl⟩, ⟨_, _, rfl, rfl⟩, ⟨_, _, rfl, rfl⟩, ⟨_, _, rfl, rfl⟩, trivial⟩)
    (case wdO => decide)
    (case adT => k_is)
    (case ldT => k_is)
    (case qdT => exact ⟨⟨_, _, rfl, rfl⟩, ⟨_, _, rfl, rfl⟩, ⟨_, _, rfl, rfl⟩, ⟨_, _, rfl, rfl⟩, ⟨_, _, rfl, rfl⟩, trivial⟩)
    (case wdT => decide)
    (case adC => k_is)
    (case ldC => k_is)
    (case qdC => exact ⟨⟨_, _, rfl, rfl⟩, ⟨_, _, rfl, rfl⟩, trivial⟩)
    (case wdC => decide)
    (case is_a => k_is)
    (case is_l => k_is)
    (case os_a => k_is)
    (case os_l => k_is)
    (case us_a => k_is)
    (case iq_a => k_is)
    (case iq_l => k_is)
    (case oq_a => k_is)
    (case oq_l => k_is)
    (case uq_a => k_is)
    (case id_a => k_is)
    (case id_l => k_is)
    (case od_a => k_is)
    (case od_l => k_is)
    (case ud_a => k_is)
    (case ii_a => k_is)
    (case ii_l => k_is)
    (case oi_a => k_is)
    (case oi_l => k_is)
    (case ui_a => k_is)
    (case io_a => k_is)
    (case io_l => k_is)
    (case oo_a => k_is)
    (case oo_l => k_is)
    (case uo_a => k_is)
    (case kp_a => k_is)
    (case kb_a => k_is)
    (case kC1 => rfl)
    (case kC2 => rfl))
#print axioms PySem.Challenge.cw_yardsort_k25_whole_turned_yards_holds
