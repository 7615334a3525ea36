import PyProof.Rows.All
import Wide.All
import OpenK.AllK
import Wide.FinOn
import Open.SpecLaws
import KE.OsGo
import KE.KSortKey
import HandS.ForSpec
import HandS.SortKw
import HandS.Iter
import PyProof.EqAt
import PyProof.EqKinds
import PyProof.NeKinds
import PyProof.TupleCall
import KE.DataMinMax
import HandS.Comp
import HandS.Walk
import HandS.Style
import HandS.TupLe
import HandS.NoneIn
import PySq34
import PySem.Challenge.RW_pastviews_s01_answers
set_option Elab.async false
set_option linter.all false
section
set_option maxRecDepth 100000
set_option maxHeartbeats 2000000
namespace Pv
open Sq28 (Deed Place Tree Stamp)
/-! ### trees -/
theorem get_some_mem {t : Tree} {x : Nat} {p : Place} (h : Sq28.get t x = some p) : p ∈ t ∧ p.thing = x := by
  unfold Sq28.get at h
  exact ⟨List.mem_of_find?_eq_some h, by have := List.find?_some h; simpa using this⟩
inductive Up (t : Tree) : Nat → List Nat → Prop
  | base {x : Nat} : x < 2 → Up t x [x]
  | step {x : Nat} {p : Place} {l : List Nat} : Sq28.get t x = some p → Up t p.under l → Up t x (x :: l)
structure Wf (t : Tree) : Prop where
  lo : ∀ p ∈ t, 2 ≤ p.thing
  hi : ∀ p ∈ t, p.thing < 64
  up : ∀ p ∈ t, ∃ l, Up t p.thing l
  asc : t.Pairwise fun p q => p.thing < q.thing
theorem Wf.nil : Wf [] := ⟨fun _ h => (by cases h), fun _ h => (by cases h), fun _ h => (by cases h), List.Pairwise.nil⟩
theorem Wf.get_lo {t : Tree} (W : Wf t) {x : Nat} (h : x < 2) : Sq28.get t x = none := by
  cases e : Sq28.get t x with
  | none => rfl
  | some p =>
    obtain ⟨h1, h2⟩ := get_some_mem e
    have := W.lo p h1
    omega
theorem Wf.get_hi {t : Tree} (W : Wf t) {x : Nat} (h : 64 ≤ x) : Sq28.get t x = none := by
  cases e : Sq28.get t x with
  | none => rfl
  | some p =>
    obtain ⟨h1, h2⟩ := get_some_mem e
    have := W.hi p h1
    omega
theorem Up.det {t : Tree} (W : Wf t) {x : Nat} {l m : List Nat} (h : Up t x l) (h' : Up t x m) : l = m := by
  induction h generalizing m with
  | base hx =>
    cases h' with
    | base _ => rfl
    | step g _ => rw [W.get_lo hx] at g; cases g
  | step g u ih =>
    cases h' with
    | base hx => rw [W.get_lo hx] at g; cases g
    | step g' u' =>
      rw [g] at g'
      cases g'
      rw [ih u']
theorem Up.head {t : Tree} {x : Nat} {l : List Nat} (h : Up t x l) : ∃ r, l = x :: r := by
  cases h with
  | base _ => exact ⟨_, rfl⟩
  | step _ _ => exact ⟨_, rfl⟩
theorem Up.mem {t : Tree} {x : Nat} {l : List Nat} (h : Up t x l) : ∀ y ∈ l, ∃ l1 l2, l = l1 ++ l2 ∧ Up t y l2 := by
  induction h with
  | base hx =>
    intro y hy
    rw [List.mem_singleton] at hy
    subst hy
    exact ⟨[], _, rfl, .base hx⟩
  | step g u ih =>
    intro y hy
    rcases List.mem_cons.mp hy with rfl | hy
    · exact ⟨[], _, rfl, .step g u⟩
    · obtain ⟨l1, l2, e, h2⟩ := ih y hy
      exact ⟨_ :: l1, l2, by rw [e]; rfl, h2⟩
theorem Up.nodup {t : Tree} (W : Wf t) {x : Nat} {l : List Nat} (h : Up t x l) : l.Nodup := by
  induction h with
  | base _ => simp
  | step g u ih =>
    refine List.nodup_cons.mpr ⟨fun hm => ?_, ih⟩
    obtain ⟨l1, l2, e, h2⟩ := u.mem _ hm
    have := (Up.step g u).det W h2
    have hl := congrArg List.length this
    rw [e] at hl
    simp at hl
    omega
theorem nodup_len : ∀ (l m : List Nat), l.Nodup → (∀ x ∈ l, x ∈ m) → l.length ≤ m.length
  | [], _, _, _ => Nat.zero_le _
  | x :: l, m, h, hs => by
    have hx : x ∈ m := hs x List.mem_cons_self
    have h1 := nodup_len l (m.erase x) (List.nodup_cons.mp h).2 fun y hy => by
      have hne : y ≠ x := fun e => (List.nodup_cons.mp h).1 (e ▸ hy)
      exact (List.mem_erase_of_ne hne).mpr (hs y (List.mem_cons_of_mem _ hy))
    have h2 := List.length_erase_of_mem hx
    have h3 : 0 < m.length := List.length_pos_of_mem hx
    simp only [List.length_cons]
    omega
theorem Up.inner {t : Tree} {x : Nat} {l : List Nat} (h : Up t x l) : ∃ l' r, l = l' ++ [r] ∧ r < 2 ∧ ∀ y ∈ l', ∃ p ∈ t, p.thing = y := by
  induction h with
  | base hx => exact ⟨[], _, rfl, hx, fun _ h => (by cases h)⟩
  | step g u ih =>
    obtain ⟨l', r, e, hr, hm⟩ := ih
    refine ⟨_ :: l', r, by rw [e]; rfl, hr, fun y hy => ?_⟩
    rcases List.mem_cons.mp hy with rfl | hy
    · exact ⟨_, (get_some_mem g).1, (get_some_mem g).2⟩
    · exact hm y hy
theorem Up.len {t : Tree} (W : Wf t) {x : Nat} {l : List Nat} (h : Up t x l) : l.length ≤ t.length + 1 := by
  obtain ⟨l', r, e, hr, hm⟩ := h.inner
  have hn := h.nodup W
  rw [e] at hn
  have h1 := nodup_len l' (t.map (·.thing)) (List.nodup_append.mp hn).1 fun y hy => by
    obtain ⟨p, hp, e⟩ := hm y hy
    exact List.mem_map.mpr ⟨p, hp, e⟩
  rw [List.length_map] at h1
  rw [e, List.length_append]
  simpa using h1
theorem line_up {t : Tree} (W : Wf t) {x : Nat} {l : List Nat} (h : Up t x l) : ∀ f, l.length ≤ f → Sq28.line t f x = l := by
  induction h with
  | base hx =>
    intro f hf
    cases f with
    | zero => simp at hf
    | succ f => rw [Sq28.line, W.get_lo hx]
  | step g u ih =>
    intro f hf
    cases f with
    | zero => simp at hf
    | succ f =>
      rw [Sq28.line, g]
      simp only
      rw [ih f (by simpa using hf)]
theorem above_up {t : Tree} (W : Wf t) {x : Nat} {l : List Nat} (h : Up t x l) : Sq28.above t x = l := line_up W h _ (h.len W)
theorem there_iff {t : Tree} (W : Wf t) {x : Nat} : Sq28.there t x = true ↔ ∃ l, Up t x l := by
  unfold Sq28.there
  constructor
  · intro h
    by_cases hx : x < 2
    · exact ⟨_, .base hx⟩
    · have h0 : (x == Sq28.ROOT) = false := by simp [Sq28.ROOT]; omega
      have h1 : (x == Sq28.BIN) = false := by simp [Sq28.BIN]; omega
      rw [h0, h1, Bool.false_or, Bool.false_or] at h
      cases e : Sq28.get t x with
      | none => rw [e] at h; cases h
      | some p =>
        obtain ⟨h1, h2⟩ := get_some_mem e
        rw [← h2]
        exact W.up p h1
  · rintro ⟨l, h⟩
    cases h with
    | base hx =>
      have : x = 0 ∨ x = 1 := by omega
      rcases this with rfl | rfl <;> simp [Sq28.ROOT, Sq28.BIN]
    | step g u => rw [g]; simp
theorem get_put (p : Place) (t : Tree) (x : Nat) : Sq28.get (Sq28.put p t) x = if x = p.thing then some p else Sq28.get t x := by
  unfold Sq28.get Sq28.put
  rw [List.find?_append, List.find?_cons, List.find?_filter, List.find?_filter]
  by_cases h : x = p.thing
  · subst h
    rw [if_pos rfl]
    have e1 : (t.find? fun a : Place => decide (decide (a.thing < p.thing) = true ∧ (a.thing == p.thing) = true)) = none := by
      rw [List.find?_eq_none]
      intro a _
      simp
      omega
    rw [e1]
    simp
  · rw [if_neg h]
    have e0 : (p.thing == x) = false := by simp; omega
    rw [e0]
    simp only
    rcases Nat.lt_or_gt_of_ne h with h | h
    · have e1 : (fun a : Place => decide (decide (a.thing < p.thing) = true ∧ (a.thing == x) = true)) = fun a => a.thing == x := by
        funext a
        by_cases e : a.thing = x <;> simp [e, h]
      have e2 : (t.find? fun a : Place => decide (decide (p.thing < a.thing) = true ∧ (a.thing == x) = true)) = none := by
        rw [List.find?_eq_none]
        intro a _
        simp
        omega
      rw [e1, e2]
      simp
    · have e1 : (fun a : Place => decide (decide (p.thing < a.thing) = true ∧ (a.thing == x) = true)) = fun a => a.thing == x := by
        funext a
        by_cases e : a.thing = x <;> simp [e, h]
      have e2 : (t.find? fun a : Place => decide (decide (a.thing < p.thing) = true ∧ (a.thing == x) = true)) = none := by
        rw [List.find?_eq_none]
        intro a _
        simp
        omega
      rw [e1, e2]
      simp
theorem mem_put {p q : Place} {t : Tree} (h : q ∈ Sq28.put p t) : q = p ∨ (q ∈ t ∧ q.thing ≠ p.thing) := by
  unfold Sq28.put at h
  rcases List.mem_append.mp h with h | h
  · obtain ⟨h1, h2⟩ := List.mem_filter.mp h
    right
    refine ⟨h1, ?_⟩
    have := of_decide_eq_true h2
    omega
  · rcases List.mem_cons.mp h with h | h
    · exact .inl h
    · obtain ⟨h1, h2⟩ := List.mem_filter.mp h
      right
      refine ⟨h1, ?_⟩
      have := of_decide_eq_true h2
      omega
theorem put_asc {p : Place} {t : Tree} (h : t.Pairwise fun p q => p.thing < q.thing) : (Sq28.put p t).Pairwise fun p q => p.thing < q.thing := by
  unfold Sq28.put
  refine List.pairwise_append.mpr ⟨h.filter _, List.pairwise_cons.mpr ⟨fun q hq => of_decide_eq_true (List.mem_filter.mp hq).2, h.filter _⟩, fun a ha b hb => ?_⟩
  have h1 := of_decide_eq_true (List.mem_filter.mp ha).2
  rcases List.mem_cons.mp hb with rfl | hb
  · exact h1
  · have h2 := of_decide_eq_true (List.mem_filter.mp hb).2
    omega
theorem outcome_one {t : Tree} {d : Deed} (h : Sq28.outcome t d = 1) : Sq28.there t d.under = true ∧ (Sq28.above t d.under).contains d.thing = false := by
  unfold Sq28.outcome at h
  split at h
  · cases h
  · rename_i h1
    split at h
    · cases h
    · rename_i h2
      exact ⟨by simpa using h1, by simpa using h2⟩
theorem Up.put {t : Tree} {p : Place} (hp : 2 ≤ p.thing) {x : Nat} {l : List Nat} (h : Up t x l) (hl : p.thing ∉ l) : Up (Sq28.put p t) x l := by
  induction h with
  | base hx => exact .base hx
  | step g u ih =>
    rename_i x q l
    have hx : x ≠ p.thing := fun e => hl (e ▸ List.mem_cons_self)
    refine .step (p := q) ?_ (ih fun hm => hl (List.mem_cons_of_mem _ hm))
    rw [get_put, if_neg hx]
    exact g
theorem Up.put_all {t : Tree} {p : Place} {m : List Nat} (hp : 2 ≤ p.thing) (hm : Up (Sq28.put p t) p.thing m) {x : Nat} {l : List Nat} (h : Up t x l) : ∃ l', Up (Sq28.put p t) x l' := by
  induction h with
  | base hx => exact ⟨_, .base hx⟩
  | step g u ih =>
    rename_i x q l
    by_cases hx : x = p.thing
    · subst hx
      exact ⟨m, hm⟩
    · obtain ⟨l', h'⟩ := ih
      refine ⟨_, .step (p := q) ?_ h'⟩
      rw [get_put, if_neg hx]
      exact g
theorem Wf.done {t : Tree} (W : Wf t) {d : Deed} (h2 : 2 ≤ d.thing) (h64 : d.thing < 64) : Wf (Sq28.done t d) := by
  unfold Sq28.done
  split
  · rename_i ho
    obtain ⟨h1, hc⟩ := outcome_one ho
    obtain ⟨l, hl⟩ := (there_iff W).mp h1
    rw [above_up W hl] at hc
    have hn : d.thing ∉ l := by simpa using hc
    have hu : Up (Sq28.put ⟨d.thing, d.under, d.label⟩ t) d.thing (d.thing :: l) := by
      refine .step (p := ⟨d.thing, d.under, d.label⟩) ?_ (Up.put h2 hl hn)
      rw [get_put, if_pos rfl]
    refine ⟨fun q hq => ?_, fun q hq => ?_, fun q hq => ?_, put_asc W.asc⟩
    · rcases mem_put hq with rfl | ⟨hq, _⟩
      · exact h2
      · exact W.lo q hq
    · rcases mem_put hq with rfl | ⟨hq, _⟩
      · exact h64
      · exact W.hi q hq
    · rcases mem_put hq with rfl | ⟨hq, _⟩
      · exact ⟨_, hu⟩
      · obtain ⟨m, hm⟩ := W.up q hq
        exact Up.put_all h2 hu hm
  · exact W
/-- what the moves' nodes are -/
abbrev Rng (l : List Deed) : Prop := ∀ d ∈ l, 2 ≤ d.thing ∧ d.thing < 64
theorem Wf.fold {l : List Deed} : ∀ {t : Tree}, Wf t → Rng l → Wf (l.foldl Sq28.done t) := by
  induction l with
  | nil => intro t W _; exact W
  | cons d l ih =>
    intro t W h
    exact ih (W.done (h d List.mem_cons_self).1 (h d List.mem_cons_self).2) fun e he => h e (List.mem_cons_of_mem _ he)
theorem Wf.treeOf {l : List Deed} (h : Rng l) : Wf (Sq28.treeOf l) := Wf.nil.fold h
/-! ### locations -/
abbrev Loc := Option (Nat × Nat)
def locs (t : Tree) : List Loc := (List.range 64).map (Sq34.place t)
theorem locs_len (t : Tree) : (locs t).length = 64 := by simp [locs]
theorem locs_get {t : Tree} {x : Nat} (h : x < 64) : (locs t)[x]? = some (Sq34.place t x) := by
  unfold locs
  rw [List.getElem?_map, List.getElem?_range h]
  rfl
theorem locs_nil : locs [] = List.replicate 64 none := by decide
theorem place_done {t : Tree} {d : Deed} (x : Nat) : Sq34.place (Sq28.done t d) x = if Sq28.outcome t d = 1 ∧ x = d.thing then some (d.under, d.label) else Sq34.place t x := by
  unfold Sq28.done
  by_cases h : Sq28.outcome t d = 1
  · rw [if_pos h]
    unfold Sq34.place
    rw [get_put]
    by_cases hx : x = d.thing
    · rw [if_pos hx, if_pos ⟨h, hx⟩]; rfl
    · rw [if_neg hx, if_neg fun z => hx z.2]
  · rw [if_neg h, if_neg fun z => h z.1]
theorem locs_done {t : Tree} {d : Deed} (h64 : d.thing < 64) (h : Sq28.outcome t d = 1) : locs (Sq28.done t d) = (locs t).set d.thing (some (d.under, d.label)) := by
  apply List.ext_getElem?
  intro i
  rw [List.getElem?_set]
  by_cases hi : i < 64
  · rw [locs_get hi, place_done]
    by_cases e : i = d.thing
    · subst e
      rw [if_pos ⟨h, rfl⟩, if_pos rfl, if_pos (by rw [locs_len]; exact hi)]
    · rw [if_neg fun z => e z.2, if_neg fun z => e z.symm, locs_get hi]
  · have h1 : (locs (Sq28.done t d))[i]? = none := by rw [List.getElem?_eq_none_iff, locs_len]; omega
    have h2 : (locs t)[i]? = none := by rw [List.getElem?_eq_none_iff, locs_len]; omega
    rw [h1, h2, if_neg (by omega)]
theorem done_same {t : Tree} {d : Deed} (h : ¬ Sq28.outcome t d = 1) : Sq28.done t d = t := if_neg h
theorem outcome_cases (t : Tree) (d : Deed) : Sq28.outcome t d = 1 ∨ Sq28.outcome t d = 2 ∨ Sq28.outcome t d = 3 := by
  unfold Sq28.outcome
  split
  · exact .inr (.inl rfl)
  · split
    · exact .inr (.inr rfl)
    · exact .inl rfl
/-! ### outcomes -/
theorem outcomes_append : ∀ (l m : List Deed) (t : Tree), Sq28.outcomes t (l ++ m) = Sq28.outcomes t l ++ Sq28.outcomes (l.foldl Sq28.done t) m
  | [], _, _ => rfl
  | d :: l, m, t => by
    show (d, Sq28.outcome t d) :: Sq28.outcomes (Sq28.done t d) (l ++ m) = _
    rw [outcomes_append l m]
    rfl
theorem outcomes_fst : ∀ (l : List Deed) (t : Tree), (Sq28.outcomes t l).map (·.1) = l
  | [], _ => rfl
  | d :: l, t => by
    show d :: (Sq28.outcomes (Sq28.done t d) l).map (·.1) = _
    rw [outcomes_fst l]
def outs (l : List Deed) : List Nat := (Sq28.outcomes [] l).map (·.2)
theorem outcomes_len (l : List Deed) (t : Tree) : (Sq28.outcomes t l).length = l.length := by
  have := congrArg List.length (outcomes_fst l t)
  rwa [List.length_map] at this
theorem outs_len (l : List Deed) : (outs l).length = l.length := by rw [outs, List.length_map, outcomes_len]
theorem outs_snoc (l : List Deed) (d : Deed) : outs (l ++ [d]) = outs l ++ [Sq28.outcome (Sq28.treeOf l) d] := by
  unfold outs
  rw [outcomes_append, List.map_append]
  rfl
theorem treeOf_snoc (l : List Deed) (d : Deed) : Sq28.treeOf (l ++ [d]) = Sq28.done (Sq28.treeOf l) d := by
  unfold Sq28.treeOf
  rw [List.foldl_append]
  rfl
/-- one item more -/
theorem take_more {α : Type} : ∀ {l : List α} {i : Nat} {x : α}, l[i]? = some x → l.take (i + 1) = l.take i ++ [x]
  | [], i, x, h => by simp at h
  | a :: l, 0, x, h => by
    have e : a = x := Option.some.inj h
    subst e
    rfl
  | a :: l, i + 1, x, h => by
    have ih := take_more (l := l) (i := i) (x := x) h
    show a :: l.take (i + 1) = a :: l.take i ++ [x]
    rw [ih]
    rfl
def doneBy (l : List Deed) (x : Nat) : List Deed := ((Sq28.outcomes [] l).filter fun y => y.1.thing == x && y.2 == 1).map fun y => y.1
theorem outcomes_zip (l : List Deed) (t : Tree) : Sq28.outcomes t l = l.zip ((Sq28.outcomes t l).map (·.2)) := by
  have h := List.zip_map' (f := fun x : Deed × Nat => x.1) (g := fun x : Deed × Nat => x.2) (l := Sq28.outcomes t l)
  rw [outcomes_fst] at h
  rw [h]
  exact (List.map_id' _).symm
theorem whose_eq (l : List Deed) (x : Nat) : Sq34.whose l x = (doneBy l x).getLast? := by
  unfold Sq34.whose doneBy
  rw [List.getLast?_map]
theorem life_eq (l : List Deed) (x : Nat) : Sq34.life l x = doneBy (Sq34.sorted l) x := rfl
end Pv
end
section
set_option maxRecDepth 100000
set_option maxHeartbeats 2000000
namespace Pv
open Sq28 (Deed Place Tree Stamp)
/-! ### the order of the timestamps -/
theorem before_iff {a b : Stamp} : a.before b = true ↔ a.count < b.count ∨ (a.count = b.count ∧ a.hand < b.hand) := by
  unfold Stamp.before
  simp
theorem stamp_ext {a b : Stamp} (h1 : a.count = b.count) (h2 : a.hand = b.hand) : a = b := by
  cases a
  cases b
  simp_all
theorem before_tri (a b : Stamp) : a.before b = true ∨ a = b ∨ b.before a = true := by
  rw [before_iff, before_iff]
  by_cases h : a.count = b.count ∧ a.hand = b.hand
  · exact .inr (.inl (stamp_ext h.1 h.2))
  · omega
theorem before_irr (a : Stamp) : a.before a = false := by
  cases h : a.before a with
  | false => rfl
  | true =>
    rw [before_iff] at h
    omega
theorem before_trans {a b c : Stamp} (h1 : a.before b = true) (h2 : b.before c = true) : a.before c = true := by
  rw [before_iff] at *
  omega
theorem before_asym {a b : Stamp} (h1 : a.before b = true) : b.before a = false := by
  cases h : b.before a with
  | false => rfl
  | true =>
    rw [before_iff] at *
    omega
abbrev Ord (l : List Deed) : Prop := l.Pairwise fun a b => a.stamp.before b.stamp = true
abbrev Dst (l : List Deed) : Prop := l.Pairwise fun a b => a.stamp ≠ b.stamp
theorem learn_perm {d : Deed} : ∀ {l : List Deed}, (∀ e ∈ l, d.stamp ≠ e.stamp) → (Sq28.learn d l).Perm (d :: l)
  | [], _ => List.Perm.refl _
  | e :: l, h => by
    unfold Sq28.learn
    split
    · exact List.Perm.refl _
    · rw [if_neg (h e List.mem_cons_self)]
      exact (List.Perm.cons e (learn_perm fun x hx => h x (List.mem_cons_of_mem _ hx))).trans (List.Perm.swap d e l)
theorem learn_ord {d : Deed} : ∀ {l : List Deed}, Ord l → (∀ e ∈ l, d.stamp ≠ e.stamp) → Ord (Sq28.learn d l)
  | [], _, _ => List.pairwise_singleton _ _
  | e :: l, h, hd => by
    obtain ⟨h1, h2⟩ := List.pairwise_cons.mp h
    unfold Sq28.learn
    split
    · rename_i hb
      exact List.pairwise_cons.mpr ⟨fun x hx => by
        rcases List.mem_cons.mp hx with rfl | hx
        · exact hb
        · exact before_trans hb (h1 x hx), h⟩
    · rename_i hb
      rw [if_neg (hd e List.mem_cons_self)]
      have hd' : ∀ x ∈ l, d.stamp ≠ x.stamp := fun x hx => hd x (List.mem_cons_of_mem _ hx)
      refine List.pairwise_cons.mpr ⟨fun x hx => ?_, learn_ord h2 hd'⟩
      rcases List.mem_cons.mp ((learn_perm hd').mem_iff.mp hx) with rfl | hx
      · rcases before_tri x.stamp e.stamp with q | q | q
        · exact absurd q hb
        · exact absurd q (hd e List.mem_cons_self)
        · exact q
      · exact h1 x hx
theorem dst_perm {l m : List Deed} (h : l.Perm m) (hd : Dst l) : Dst m := h.pairwise hd fun q => Ne.symm q
theorem sorted_from : ∀ (l m : List Deed), Dst (l ++ m) → Ord m → (l.foldl (fun (m : List Deed) d => Sq28.learn d m) m).Perm (l ++ m) ∧ Ord (l.foldl (fun (m : List Deed) d => Sq28.learn d m) m)
  | [], m, _, ho => ⟨List.Perm.refl _, ho⟩
  | d :: l, m, hd, ho => by
    obtain ⟨h1, h2⟩ := List.pairwise_cons.mp (show Dst (d :: (l ++ m)) from hd)
    have hm : ∀ e ∈ m, d.stamp ≠ e.stamp := fun e he => h1 e (List.mem_append_right _ he)
    have p1 : (l ++ Sq28.learn d m).Perm (d :: (l ++ m)) := (List.Perm.append_left l (learn_perm hm)).trans List.perm_middle
    obtain ⟨q1, q2⟩ := sorted_from l (Sq28.learn d m) (dst_perm p1.symm hd) (learn_ord ho hm)
    exact ⟨q1.trans p1, q2⟩
theorem sorted_perm {l : List Deed} (h : Dst l) : (Sq34.sorted l).Perm l := by
  have := (sorted_from l [] (by rw [List.append_nil]; exact h) List.Pairwise.nil).1
  rwa [List.append_nil] at this
theorem sorted_ord {l : List Deed} (h : Dst l) : Ord (Sq34.sorted l) := (sorted_from l [] (by rw [List.append_nil]; exact h) List.Pairwise.nil).2
theorem ord_uniq {l m : List Deed} (h1 : Ord l) (h2 : Ord m) (p : l.Perm m) : l = m :=
  List.Perm.eq_of_pairwise (le := fun a b : Deed => a.stamp.before b.stamp = true) (fun a b _ _ x y => by rw [before_asym x] at y; cases y) h1 h2 p
theorem sorted_uniq {l m : List Deed} (h : Dst l) (ho : Ord m) (p : m.Perm l) : m = Sq34.sorted l := ord_uniq ho (sorted_ord h) (p.trans (sorted_perm h).symm)
theorem sorted_filter {l : List Deed} (h : Dst l) (p : Deed → Bool) : Sq34.sorted (l.filter p) = (Sq34.sorted l).filter p :=
  (sorted_uniq (h.filter p) ((sorted_ord h).filter p) ((sorted_perm h).filter p)).symm
theorem sorted_mem {l : List Deed} (h : Dst l) {d : Deed} : d ∈ Sq34.sorted l ↔ d ∈ l := (sorted_perm h).mem_iff
/-- what a sort by timestamps leaves, is the specification's sort -/
theorem sort_is {α : Type} {vs out : List α} (k : α → Deed) (hp : out.Perm vs) (ho : out.Pairwise fun x y => (k y).stamp.before (k x).stamp = false) (hd : Dst (vs.map k)) : out.map k = Sq34.sorted (vs.map k) := by
  refine sorted_uniq hd ?_ (hp.map k)
  have h1 : Dst (out.map k) := dst_perm (hp.map k).symm hd
  refine List.pairwise_map.mpr ?_
  exact (ho.and (List.pairwise_map.mp h1)).imp fun {x y} ⟨q1, q2⟩ => by
    rcases before_tri (k x).stamp (k y).stamp with z | z | z
    · exact z
    · exact absurd z q2
    · rw [z] at q1
      cases q1
theorem sorted_snoc {l : List Deed} {d : Deed} (h : Dst l) (hl : ∀ e ∈ l, e.stamp.before d.stamp = true) : Sq34.sorted (l ++ [d]) = Sq34.sorted l ++ [d] := by
  have hd : Dst (l ++ [d]) := List.pairwise_append.mpr ⟨h, List.pairwise_singleton _ _, fun a ha b hb => by
    rw [List.mem_singleton] at hb
    subst hb
    intro e
    have := hl a ha
    rw [e, before_irr] at this
    cases this⟩
  refine (sorted_uniq hd ?_ (List.Perm.append_right _ (sorted_perm h))).symm
  refine List.pairwise_append.mpr ⟨sorted_ord h, List.pairwise_singleton _ _, fun a ha b hb => ?_⟩
  rw [List.mem_singleton] at hb
  subst hb
  exact hl a ((sorted_mem h).mp ha)
/-! ### the house -/
open Sq34 (House)
structure Ok (h : House) : Prop where
  ids : ∀ (i : Nat) (d : Deed), h.all[i]? = some d → d.id = i
  rng : ∀ d ∈ h.all, 2 ≤ d.thing ∧ d.thing < 64
  und : ∀ d ∈ h.all, d.under < 64
  cnt : ∀ d ∈ h.all, d.stamp.count ≤ h.all.length
  dst : ∀ d ∈ h.all, ∀ e ∈ h.all, d.stamp = e.stamp → d = e
  mem : ∀ l ∈ h.desks, ∀ d ∈ l, d ∈ h.all
  nd : ∀ l ∈ h.desks, l.Nodup
  len : h.all.length ≤ 80
  own : ∀ d ∈ h.all, d ∈ h.desk d.stamp.hand
  pos : 1 ≤ h.desks.length
  dks : h.desks.length ≤ 8
/-- what holds of a list of moves that a replica knows -/
structure OkL (l : List Deed) : Prop where
  dst : Dst l
  rng : Rng l
  und : ∀ d ∈ l, d.under < 64
  cnt : ∀ d ∈ l, d.stamp.count ≤ 80
  idn : ∀ d ∈ l, ∀ e ∈ l, d.id = e.id → d = e
  len : l.length ≤ 80
theorem Ok.idn {h : House} (O : Ok h) {d e : Deed} (hd : d ∈ h.all) (he : e ∈ h.all) (q : d.id = e.id) : d = e := by
  obtain ⟨i, hi⟩ := List.getElem?_of_mem hd
  obtain ⟨j, hj⟩ := List.getElem?_of_mem he
  have h1 := O.ids i d hi
  have h2 := O.ids j e hj
  have e : i = j := by omega
  subst e
  rw [hi] at hj
  exact Option.some.inj hj
theorem dst_of {l : List Deed} (nd : l.Nodup) (h : ∀ d ∈ l, ∀ e ∈ l, d.stamp = e.stamp → d = e) : Dst l :=
  List.Pairwise.imp_of_mem (fun {a b} ha hb hn he => hn (h a ha b hb he)) nd
theorem nodup_id_len {h : House} (O : Ok h) {l : List Deed} (nd : l.Nodup) (hm : ∀ d ∈ l, d ∈ h.all) : l.length ≤ 80 := by
  have hn : (l.map (·.id)).Nodup := by
    refine List.pairwise_map.mpr ?_
    exact List.Pairwise.imp_of_mem (fun {a b} ha hb hn he => hn (O.idn (hm a ha) (hm b hb) he)) nd
  have := nodup_len (l.map (·.id)) (List.range 80) hn fun x hx => by
    obtain ⟨d, hd, rfl⟩ := List.mem_map.mp hx
    obtain ⟨i, hi⟩ := List.getElem?_of_mem (hm d hd)
    have h1 := O.ids i d hi
    have h2 := (List.getElem?_eq_some_iff.mp hi).1
    have := O.len
    exact List.mem_range.mpr (by omega)
  simpa using this
theorem Ok.desk {h : House} (O : Ok h) {l : List Deed} (hl : l ∈ h.desks) : OkL l where
  dst := dst_of (O.nd l hl) fun d hd e he => O.dst d (O.mem l hl d hd) e (O.mem l hl e he)
  rng := fun d hd => O.rng d (O.mem l hl d hd)
  und := fun d hd => O.und d (O.mem l hl d hd)
  cnt := fun d hd => Nat.le_trans (O.cnt d (O.mem l hl d hd)) O.len
  idn := fun d hd e he => O.idn (O.mem l hl d hd) (O.mem l hl e he)
  len := nodup_id_len O (O.nd l hl) (O.mem l hl)
theorem desk_get {h : House} {k : Nat} (hk : k < h.desks.length) : h.desks[k]? = some (h.desk k) := by
  unfold House.desk
  rw [List.getElem?_eq_getElem hk]
  rfl
theorem desk_mem {h : House} {k : Nat} (hk : k < h.desks.length) : h.desk k ∈ h.desks := List.mem_of_getElem? (desk_get hk)
theorem OkL.sub {l m : List Deed} (O : OkL l) (h : m.Sublist l) : OkL m where
  dst := O.dst.sublist h
  rng := fun d hd => O.rng d (h.subset hd)
  und := fun d hd => O.und d (h.subset hd)
  cnt := fun d hd => O.cnt d (h.subset hd)
  idn := fun d hd e he => O.idn d (h.subset hd) e (h.subset he)
  len := Nat.le_trans h.length_le O.len
theorem OkL.take {l : List Deed} (O : OkL l) (i : Nat) : OkL (l.take i) := O.sub (List.take_sublist i l)
theorem OkL.filter {l : List Deed} (O : OkL l) (p : Deed → Bool) : OkL (l.filter p) := O.sub List.filter_sublist
theorem OkL.sorted {l : List Deed} (O : OkL l) : OkL (Sq34.sorted l) where
  dst := dst_perm (sorted_perm O.dst).symm O.dst
  rng := fun d hd => O.rng d ((sorted_mem O.dst).mp hd)
  und := fun d hd => O.und d ((sorted_mem O.dst).mp hd)
  cnt := fun d hd => O.cnt d ((sorted_mem O.dst).mp hd)
  idn := fun d hd e he => O.idn d ((sorted_mem O.dst).mp hd) e ((sorted_mem O.dst).mp he)
  len := by rw [(sorted_perm O.dst).length_eq]; exact O.len
theorem OkL.wf {l : List Deed} (O : OkL l) : Wf (Sq28.treeOf (Sq34.sorted l)) := Wf.treeOf O.sorted.rng
/-! ### views -/
theorem view_deeds {l : List Deed} (O : OkL l) (i c a : Nat) : Sq34.View.deeds ⟨i, ⟨c, a⟩⟩ l = Sq34.sorted ((l.take i).filter fun d => !(Stamp.before ⟨c, a⟩ d.stamp)) := by
  unfold Sq34.View.deeds
  rw [sorted_filter (O.take i).dst]
theorem view_tree {l : List Deed} (O : OkL l) (i c a : Nat) : Sq34.View.tree ⟨i, ⟨c, a⟩⟩ l = Sq28.treeOf (Sq34.sorted ((l.take i).filter fun d => !(Stamp.before ⟨c, a⟩ d.stamp))) := by
  unfold Sq34.View.tree
  rw [view_deeds O]
theorem knew_eq {l : List Deed} (O : OkL l) (i : Nat) : Sq34.knew i l = Sq28.treeOf (Sq34.sorted (l.take i)) := by
  unfold Sq34.knew
  unfold Sq34.top
  rw [view_tree O]
  have e : (l.take i).filter (fun d => !(Stamp.before ⟨2 ^ 32, 0⟩ d.stamp)) = l.take i := by
    rw [List.filter_eq_self]
    intro d hd
    have h1 := (O.take i).cnt d hd
    have h2 : Stamp.before ⟨2 ^ 32, 0⟩ d.stamp = false := by
      cases h : Stamp.before ⟨2 ^ 32, 0⟩ d.stamp with
      | false => rfl
      | true =>
        rw [before_iff] at h
        simp only at h
        omega
    rw [h2]
    rfl
  rw [e]
/-! ### differences, since, surprises -/
theorem otherwise_eq (t u : Tree) : Sq34.otherwise t u = (List.range 64).filter fun x => Sq34.place t x != Sq34.place u x := rfl
theorem since_is {l : List Deed} {x m : Nat} (hm : m ≤ l.length) (ha : ∀ j, m ≤ j → j ≤ l.length → Sq34.place (Sq34.knew j l) x = Sq34.place (Sq34.knew l.length l) x)
    (hb : m = 0 ∨ Sq34.place (Sq34.knew (m - 1) l) x ≠ Sq34.place (Sq34.knew l.length l) x) : Sq34.since l x = m := by
  unfold Sq34.since
  simp only
  have e : (List.range (l.length + 1)).find? (fun i => (((List.range (l.length + 1)).map fun j => Sq34.place (Sq34.knew j l) x).drop i).all fun p => p == Sq34.place (Sq34.knew l.length l) x) = some m := by
    rw [List.find?_range_eq_some]
    refine ⟨?_, List.mem_range.mpr (by omega), ?_⟩
    · rw [List.all_eq_true]
      intro p hp
      obtain ⟨i, hi⟩ := List.getElem?_of_mem hp
      rw [List.getElem?_drop, List.getElem?_map] at hi
      cases q : (List.range (l.length + 1))[m + i]? with
      | none => rw [q] at hi; cases hi
      | some j =>
        rw [q] at hi
        obtain ⟨hlt, hj⟩ := List.getElem?_eq_some_iff.mp q
        rw [List.getElem_range] at hj
        rw [List.length_range] at hlt
        subst hj
        have hi' : Sq34.place (Sq34.knew (m + i) l) x = p := Option.some.inj hi
        rw [← hi', ha (m + i) (by omega) (by omega)]
        simp
    · intro j hj
      rcases hb with hb | hb
      · omega
      · rw [Bool.not_eq_true', List.all_eq_false]
        refine ⟨Sq34.place (Sq34.knew (m - 1) l) x, ?_, by simpa using hb⟩
        refine List.mem_of_getElem? (i := m - 1 - j) ?_
        rw [List.getElem?_drop, List.getElem?_map, List.getElem?_range (by omega)]
        have : j + (m - 1 - j) = m - 1 := by omega
        rw [this]
        rfl
  rw [e]
  rfl
theorem surprising_is {l : List Deed} {i : Nat} {d : Deed} (hd : l[i]? = some d) (h64 : d.thing < 64) :
    Sq34.surprising l i = if ((Sq34.otherwise (Sq34.knew i l) (Sq34.knew (i + 1) l)).filter fun x => x != d.thing) ≠ [] then true
      else decide (Sq34.otherwise (Sq34.knew i l) (Sq34.knew (i + 1) l) ≠ []) && decide (Sq34.place (Sq34.knew (i + 1) l) d.thing ≠ some (d.under, d.label)) := by
  unfold Sq34.surprising
  rw [hd]
  simp only
  generalize Sq34.knew i l = t
  generalize Sq34.knew (i + 1) l = u
  by_cases h : ((Sq34.otherwise t u).filter fun x => x != d.thing) = []
  · rw [if_neg (by simpa using h)]
    have h1 : ((Sq34.otherwise t u).any fun x => x != d.thing) = false := by
      rw [List.any_eq_false]
      rw [List.filter_eq_nil_iff] at h
      exact h
    rw [h1, Bool.false_or]
    by_cases hp : Sq34.place t d.thing = Sq34.place u d.thing
    · have hn : Sq34.otherwise t u = [] := by
        rw [otherwise_eq, List.filter_eq_nil_iff]
        intro x hx
        rw [List.filter_eq_nil_iff] at h
        intro hx2
        have hm : x ∈ Sq34.otherwise t u := by rw [otherwise_eq]; exact List.mem_filter.mpr ⟨hx, hx2⟩
        have := h x hm
        have hxd : x = d.thing := by simpa using this
        subst hxd
        rw [hp] at hx2
        simp at hx2
      rw [hn, hp]
      simp
    · have hn : Sq34.otherwise t u ≠ [] := by
        intro e
        have hm : d.thing ∈ Sq34.otherwise t u := by
          rw [otherwise_eq]
          exact List.mem_filter.mpr ⟨List.mem_range.mpr h64, by simpa using hp⟩
        rw [e] at hm
        cases hm
      have e1 : (Sq34.place t d.thing != Sq34.place u d.thing) = true := by simpa using hp
      rw [e1, decide_eq_true hn, Bool.true_and, Bool.true_and]
      by_cases q : Sq34.place u d.thing = some (d.under, d.label)
      · rw [q]; simp
      · simp [q]
  · rw [if_pos h]
    have h1 : ((Sq34.otherwise t u).any fun x => x != d.thing) = true := by
      cases e : ((Sq34.otherwise t u).filter fun x => x != d.thing) with
      | nil => exact absurd e h
      | cons y r =>
        have hm : y ∈ ((Sq34.otherwise t u).filter fun x => x != d.thing) := by rw [e]; exact List.mem_cons_self
        obtain ⟨h1, h2⟩ := List.mem_filter.mp hm
        rw [List.any_eq_true]
        exact ⟨y, h1, h2⟩
    rw [h1]
    rfl
end Pv
end
section
set_option maxRecDepth 100000
set_option maxHeartbeats 2000000
namespace Pv
open Sq28 (Deed Place Tree Stamp)
open Sq34 (House)
/-! ### the tree below the root -/
theorem Wf.len {t : Tree} (W : Wf t) : t.length ≤ 64 := by
  have h := nodup_len (t.map (·.thing)) (List.range 64) (List.pairwise_map.mpr (W.asc.imp fun h => Nat.ne_of_lt h)) fun x hx => by
    obtain ⟨p, hp, rfl⟩ := List.mem_map.mp hx
    exact List.mem_range.mpr (W.hi p hp)
  simpa using h
theorem get_mem {t : Tree} (W : Wf t) {p : Place} (h : p ∈ t) : Sq28.get t p.thing = some p := by
  cases e : Sq28.get t p.thing with
  | none =>
    unfold Sq28.get at e
    rw [List.find?_eq_none] at e
    have := e p h
    simp at this
  | some q =>
    obtain ⟨h1, h2⟩ := get_some_mem e
    obtain ⟨i, hi, e1⟩ := List.getElem_of_mem h
    obtain ⟨j, hj, e2⟩ := List.getElem_of_mem h1
    rcases Nat.lt_trichotomy i j with c | c | c
    · have := List.pairwise_iff_getElem.mp W.asc i j hi hj c
      rw [e1, e2] at this
      omega
    · subst c
      rw [← e1, ← e2]
    · have := List.pairwise_iff_getElem.mp W.asc j i hj hi c
      rw [e1, e2] at this
      omega
theorem mem_under {t : Tree} {x : Nat} {p : Place} : p ∈ Sq28.under t x ↔ p ∈ t ∧ p.under = x := by
  unfold Sq28.under
  rw [List.mem_filter]
  simp
theorem flatMap_congr' {α β : Type} {f g : α → List β} : ∀ {l : List α}, (∀ x ∈ l, f x = g x) → l.flatMap f = l.flatMap g
  | [], _ => rfl
  | x :: l, h => by
    rw [List.flatMap_cons, List.flatMap_cons, h x List.mem_cons_self, flatMap_congr' fun y hy => h y (List.mem_cons_of_mem _ hy)]
theorem listed_stable {t : Tree} (W : Wf t) : ∀ (f d x : Nat) (l : List Nat), Up t x l → t.length + 2 ≤ l.length + f → Sq28.listed t f d x = Sq28.listed t (f + 1) d x
  | 0, d, x, l, u, h => by
    have := u.len W
    omega
  | f + 1, d, x, l, u, h => by
    show (Sq28.under t x).flatMap (fun p => (p, d) :: Sq28.listed t f (d + 1) p.thing) = (Sq28.under t x).flatMap (fun p => (p, d) :: Sq28.listed t (f + 1) (d + 1) p.thing)
    refine flatMap_congr' fun p hp => ?_
    obtain ⟨h1, h2⟩ := mem_under.mp hp
    subst h2
    rw [listed_stable W f (d + 1) p.thing (p.thing :: l) (.step (get_mem W h1) u) (by simp only [List.length_cons]; omega)]
abbrev Trip := Nat × Nat × Nat
def sub (t : Tree) (d x : Nat) : List Trip := (Sq28.listed t (t.length + 1) d x).map fun q => (q.1.thing, q.2, q.1.label)
def labelOf (t : Tree) (x : Nat) : Nat := match Sq34.place t x with
  | some (_, l) => l
  | none => 0
def kids (t : Tree) (x : Nat) : List Nat := (Sq28.under t x).map (·.thing)
theorem place_mem {t : Tree} (W : Wf t) {p : Place} (h : p ∈ t) : Sq34.place t p.thing = some (p.under, p.label) := by
  unfold Sq34.place
  rw [get_mem W h]
  rfl
theorem sub_eq {t : Tree} (W : Wf t) {d x : Nat} {l : List Nat} (u : Up t x l) : sub t d x = (kids t x).flatMap fun c => (c, d, labelOf t c) :: sub t (d + 1) c := by
  unfold sub kids
  show ((Sq28.under t x).flatMap (fun p => (p, d) :: Sq28.listed t t.length (d + 1) p.thing)).map _ = _
  rw [List.map_flatMap, List.flatMap_map]
  refine flatMap_congr' fun p hp => ?_
  obtain ⟨h1, h2⟩ := mem_under.mp hp
  subst h2
  have hl := u.head
  obtain ⟨r, rfl⟩ := hl
  have e := listed_stable W t.length (d + 1) p.thing (p.thing :: p.under :: r) (.step (get_mem W h1) u) (by simp only [List.length_cons]; omega)
  have e2 : labelOf t p.thing = p.label := by unfold labelOf; rw [place_mem W h1]
  rw [List.map_cons, e, e2]
/-- what the stack (its top first) still tells -/
def rest (t : Tree) (st : List (Nat × Nat)) : List Trip := st.flatMap fun q => (q.1, q.2, labelOf t q.1) :: sub t (q.2 + 1) q.1
theorem rest_start {t : Tree} (W : Wf t) : rest t ((kids t 0).map fun c => (c, 1)) = sub t 1 0 := by
  rw [sub_eq W (.base (by omega)), rest, List.flatMap_map]
theorem rest_pop {t : Tree} (W : Wf t) {x d : Nat} {st : List (Nat × Nat)} {l : List Nat} (u : Up t x l) :
    rest t ((x, d) :: st) = (x, d, labelOf t x) :: rest t ((kids t x).map (fun c => (c, d + 1)) ++ st) := by
  unfold rest
  rw [List.flatMap_cons, List.flatMap_append, List.flatMap_map]
  simp only [List.cons_append, List.cons.injEq, true_and]
  rw [sub_eq W u]
theorem rest_len (t : Tree) : ∀ st : List (Nat × Nat), st.length ≤ (rest t st).length
  | [] => Nat.le_refl _
  | q :: st => by
    have := rest_len t st
    unfold rest at *
    rw [List.flatMap_cons, List.length_append]
    simp only [List.length_cons]
    omega
theorem kids_up {t : Tree} (W : Wf t) {x c : Nat} {l : List Nat} (u : Up t x l) (h : c ∈ kids t x) : Up t c (c :: l) := by
  obtain ⟨p, hp, rfl⟩ := List.mem_map.mp h
  obtain ⟨h1, h2⟩ := mem_under.mp hp
  subst h2
  exact .step (get_mem W h1) u
theorem kids_lt {t : Tree} (W : Wf t) {x c : Nat} (h : c ∈ kids t x) : c < 64 ∧ ∃ l, Sq34.place t c = some (x, l) := by
  obtain ⟨p, hp, rfl⟩ := List.mem_map.mp h
  obtain ⟨h1, h2⟩ := mem_under.mp hp
  exact ⟨W.hi p h1, p.label, by rw [place_mem W h1, h2]⟩
def isKid (x : Nat) : Loc → Bool
  | some (u, _) => u == x
  | none => false
theorem asc_ext : ∀ {l m : List Nat}, l.Pairwise (· < ·) → m.Pairwise (· < ·) → (∀ x, x ∈ l ↔ x ∈ m) → l = m := by
  intro l m h1 h2 h
  have n1 : l.Nodup := h1.imp fun h => Nat.ne_of_lt h
  have n2 : m.Nodup := h2.imp fun h => Nat.ne_of_lt h
  exact List.Perm.eq_of_pairwise (le := fun a b : Nat => a < b) (fun a b _ _ x y => by omega) h1 h2 ((List.perm_ext_iff_of_nodup n1 n2).mpr h)
theorem kids_eq {t : Tree} (W : Wf t) (x : Nat) : kids t x = (List.range 64).filter fun c => isKid x (Sq34.place t c) := by
  refine asc_ext (List.pairwise_map.mpr (W.asc.filter _)) (List.pairwise_lt_range.filter _) fun c => ?_
  rw [List.mem_filter, List.mem_range]
  constructor
  · intro h
    obtain ⟨h1, l, h2⟩ := kids_lt W h
    exact ⟨h1, by rw [h2]; simp [isKid]⟩
  · rintro ⟨h1, h2⟩
    unfold Sq34.place at h2
    cases e : Sq28.get t c with
    | none => rw [e] at h2; cases h2
    | some p =>
      rw [e] at h2
      have h3 : p.under = x := by simpa [isKid] using h2
      obtain ⟨q1, q2⟩ := get_some_mem e
      exact List.mem_map.mpr ⟨p, mem_under.mpr ⟨q1, h3⟩, q2⟩
theorem told_eq (t : Tree) : Sq34.told (Sq28.all t Sq28.ROOT) = ⟨(sub t 1 0).length, Sq34.ints ((sub t 1 0).flatMap fun q => [q.1, q.2.1, q.2.2])⟩ := by
  unfold Sq34.told Sq28.all sub
  rw [List.length_map, List.flatMap_map]
  rfl
end Pv
end
section
set_option maxRecDepth 100000
set_option maxHeartbeats 2000000
namespace Pv
open Sq28 (Deed Place Tree Stamp)
open Sq34 (House)
/-! ### the house's steps keep what holds of it -/
theorem Ok.fresh : Ok Sq34.fresh where
  ids := fun i d h => by simp [Sq34.fresh] at h
  rng := fun d h => by simp [Sq34.fresh] at h
  und := fun d h => by simp [Sq34.fresh] at h
  cnt := fun d h => by simp [Sq34.fresh] at h
  dst := fun d h => by simp [Sq34.fresh] at h
  mem := fun l hl d hd => by simp [Sq34.fresh] at hl; subst hl; cases hd
  nd := fun l hl => by simp [Sq34.fresh] at hl; subst hl; exact List.nodup_nil
  len := by simp [Sq34.fresh]
  own := fun d h => by simp [Sq34.fresh] at h
  pos := by simp [Sq34.fresh]
  dks := by simp [Sq34.fresh]
theorem Ok.begun {n : Nat} (h1 : 1 ≤ n) (h8 : n ≤ 8) : Ok ⟨[], List.replicate n []⟩ where
  ids := fun i d h => by simp at h
  rng := fun d h => by simp at h
  und := fun d h => by simp at h
  cnt := fun d h => by simp at h
  dst := fun d h => by simp at h
  mem := fun l hl d hd => by rw [(List.mem_replicate.mp hl).2] at hd; cases hd
  nd := fun l hl => by rw [(List.mem_replicate.mp hl).2]; exact List.nodup_nil
  len := by simp
  own := fun d h => by simp at h
  pos := by simpa using h1
  dks := by simpa using h8
theorem desk_set {h : House} {k : Nat} {l : List Deed} (hk : k < h.desks.length) (j : Nat) : House.desk { h with desks := h.desks.set k l } j = if j = k then l else h.desk j := by
  unfold House.desk
  simp only [List.getElem?_set]
  by_cases e : j = k
  · subst e
    simp [hk]
  · rw [if_neg (Ne.symm e), if_neg e]
/-- another list for a replica, that holds more -/
theorem Ok.set {h : House} (O : Ok h) {k : Nat} (hk : k < h.desks.length) {l : List Deed} (h1 : ∀ d ∈ l, d ∈ h.all) (h2 : l.Nodup) (h3 : ∀ d ∈ h.desk k, d ∈ l) : Ok { h with desks := h.desks.set k l } where
  ids := O.ids
  rng := O.rng
  und := O.und
  cnt := O.cnt
  dst := O.dst
  mem := fun m hm d hd => by
    rcases List.mem_or_eq_of_mem_set hm with q | q
    · exact O.mem m q d hd
    · subst q
      exact h1 d hd
  nd := fun m hm => by
    rcases List.mem_or_eq_of_mem_set hm with q | q
    · exact O.nd m q
    · subst q
      exact h2
  len := O.len
  own := fun d hd => by
    rw [desk_set hk]
    split
    · rename_i e
      exact h3 d (e ▸ O.own d hd)
    · exact O.own d hd
  pos := by simpa using O.pos
  dks := by simpa using O.dks
theorem next_le {l : List Deed} : ∀ m : Nat, (∀ d ∈ l, d.stamp.count ≤ l.foldl (fun (m : Nat) d => max m d.stamp.count) m) ∧ m ≤ l.foldl (fun (m : Nat) d => max m d.stamp.count) m := by
  induction l with
  | nil => intro m; exact ⟨fun d hd => (by cases hd), Nat.le_refl _⟩
  | cons e l ih =>
    intro m
    obtain ⟨h1, h2⟩ := ih (max m e.stamp.count)
    refine ⟨fun d hd => ?_, ?_⟩
    · rcases List.mem_cons.mp hd with rfl | hd
      · exact Nat.le_trans (Nat.le_max_right _ _) h2
      · exact h1 d hd
    · exact Nat.le_trans (Nat.le_max_left _ _) h2
theorem next_bd {l : List Deed} {B : Nat} : ∀ m : Nat, m ≤ B → (∀ d ∈ l, d.stamp.count ≤ B) → l.foldl (fun (m : Nat) d => max m d.stamp.count) m ≤ B := by
  induction l with
  | nil => intro m h _; exact h
  | cons e l ih =>
    intro m h hl
    exact ih _ (Nat.max_le.mpr ⟨h, hl e List.mem_cons_self⟩) fun d hd => hl d (List.mem_cons_of_mem _ hd)
theorem next_gt {h : House} {k : Nat} {d : Deed} (hd : d ∈ h.desk k) : d.stamp.count < h.next k := Nat.lt_succ_of_le ((next_le (l := h.desk k) 0).1 d hd)
theorem desk_all {h : House} (O : Ok h) {k : Nat} {d : Deed} (hd : d ∈ h.desk k) : d ∈ h.all := by
  by_cases hk : k < h.desks.length
  · exact O.mem _ (desk_mem hk) d hd
  · unfold House.desk at hd
    rw [List.getElem?_eq_none (by omega)] at hd
    cases hd
theorem next_all {h : House} (O : Ok h) (k : Nat) : h.next k ≤ h.all.length + 1 := by
  refine Nat.succ_le_succ (next_bd 0 (Nat.zero_le _) fun d hd => O.cnt d (desk_all O hd))
/-- the move that is made -/
def made (h : House) (k x u v : Nat) : Deed := ⟨h.all.length, ⟨h.next k, k⟩, x, u, v⟩
theorem made_new {h : House} (O : Ok h) {k x u v : Nat} {e : Deed} (he : e ∈ h.all) : e.id ≠ (made h k x u v).id := by
  obtain ⟨i, hi⟩ := List.getElem?_of_mem he
  have h1 := O.ids i e hi
  have h2 := (List.getElem?_eq_some_iff.mp hi).1
  show e.id ≠ h.all.length
  omega
theorem made_stamp {h : House} (O : Ok h) {k x u v : Nat} {e : Deed} (he : e ∈ h.all) : e.stamp ≠ (made h k x u v).stamp := by
  intro q
  have h1 : e.stamp.hand = k := by rw [q]; rfl
  have h2 := O.own e he
  rw [h1] at h2
  have h3 := next_gt h2
  rw [q] at h3
  exact Nat.lt_irrefl _ h3
theorem made_later {h : House} {k x u v : Nat} {e : Deed} (he : e ∈ h.desk k) : e.stamp.before (made h k x u v).stamp = true := by
  rw [before_iff]
  exact .inl (next_gt he)
theorem made_notin {h : House} (O : Ok h) {k x u v : Nat} : made h k x u v ∉ h.desk k := fun hm => made_new O (desk_all O hm) rfl
theorem learns_no {h : House} {k : Nat} {d : Deed} (hn : d ∉ h.desk k) : h.learns k d = { h with desks := h.desks.set k (h.desk k ++ [d]) } := by
  unfold House.learns
  rw [if_neg]
  simpa using hn
theorem learns_yes {h : House} {k : Nat} {d : Deed} (hn : d ∈ h.desk k) : h.learns k d = h := by
  unfold House.learns
  rw [if_pos]
  simpa using hn
/-- the house behind a move -/
def moved (h : House) (k x u v : Nat) : House := ⟨h.all ++ [made h k x u v], h.desks.set k (h.desk k ++ [made h k x u v])⟩
theorem moved_eq {h : House} (O : Ok h) {k x u v : Nat} : House.learns ⟨h.all ++ [made h k x u v], h.desks⟩ k (made h k x u v) = moved h k x u v :=
  learns_no (h := ⟨h.all ++ [made h k x u v], h.desks⟩) (made_notin O)
theorem Ok.moved {h : House} (O : Ok h) {k x u v : Nat} (hk : k < h.desks.length) (h80 : h.all.length < 80) (hx : 2 ≤ x) (hx' : x < 64) (hu : u < 64) : Ok (Pv.moved h k x u v) := by
  have hmem : ∀ {d : Deed}, d ∈ h.all ++ [made h k x u v] → d ∈ h.all ∨ d = made h k x u v := fun hd => by
    rcases List.mem_append.mp hd with q | q
    · exact .inl q
    · exact .inr (List.mem_singleton.mp q)
  refine ⟨fun i d hi => ?_, fun d hd => ?_, fun d hd => ?_, fun d hd => ?_, fun d hd e he q => ?_, fun l hl d hd => ?_, fun l hl => ?_, ?_, fun d hd => ?_, ?_, ?_⟩
  · show d.id = i
    have hi : (h.all ++ [made h k x u v])[i]? = some d := hi
    rw [List.getElem?_append] at hi
    split at hi
    · exact O.ids i d hi
    · rename_i hn
      rw [List.getElem?_singleton] at hi
      split at hi
      · rename_i e
        have : made h k x u v = d := Option.some.inj hi
        subst this
        show h.all.length = i
        omega
      · cases hi
  · rcases hmem hd with q | rfl
    · exact O.rng d q
    · exact ⟨hx, hx'⟩
  · rcases hmem hd with q | rfl
    · exact O.und d q
    · exact hu
  · show d.stamp.count ≤ (h.all ++ [made h k x u v]).length
    rw [List.length_append, List.length_singleton]
    rcases hmem hd with q | rfl
    · exact Nat.le_succ_of_le (O.cnt d q)
    · exact next_all O k
  · rcases hmem hd with q1 | rfl
    · rcases hmem he with q2 | rfl
      · exact O.dst d q1 e q2 q
      · exact absurd q (made_stamp O q1)
    · rcases hmem he with q2 | rfl
      · exact absurd q.symm (made_stamp O q2)
      · rfl
  · show d ∈ h.all ++ [made h k x u v]
    rcases List.mem_or_eq_of_mem_set hl with q | q
    · exact List.mem_append_left _ (O.mem l q d hd)
    · subst q
      rcases List.mem_append.mp hd with q | q
      · exact List.mem_append_left _ (desk_all O q)
      · exact List.mem_append_right _ q
  · rcases List.mem_or_eq_of_mem_set hl with q | q
    · exact O.nd l q
    · subst q
      refine List.nodup_append.mpr ⟨O.nd _ (desk_mem hk), by simp, fun a ha b hb => ?_⟩
      rw [List.mem_singleton] at hb
      subst hb
      intro e
      exact made_notin O (e ▸ ha)
  · show (h.all ++ [made h k x u v]).length ≤ 80
    rw [List.length_append, List.length_singleton]
    omega
  · show d ∈ House.desk { all := _, desks := h.desks.set k _ } d.stamp.hand
    have e := desk_set (h := ⟨h.all ++ [made h k x u v], h.desks⟩) (k := k) (l := h.desk k ++ [made h k x u v]) hk d.stamp.hand
    rw [e]
    split
    · rename_i q
      rcases hmem hd with q1 | rfl
      · exact List.mem_append_left _ (q ▸ O.own d q1)
      · exact List.mem_append_right _ (List.mem_singleton.mpr rfl)
    · rename_i q
      rcases hmem hd with q1 | rfl
      · exact O.own d q1
      · exact absurd rfl q
  · show 1 ≤ (h.desks.set k _).length
    simpa using O.pos
  · show (h.desks.set k _).length ≤ 8
    simpa using O.dks
/-- many are learned -/
theorem foldl_learns {k : Nat} : ∀ (m : List Deed) (h : House), k < h.desks.length → m.Nodup →
    m.foldl (fun (g : House) d => g.learns k d) h = { h with desks := h.desks.set k (h.desk k ++ m.filter fun d => !(h.desk k).contains d) }
  | [], h, hk, _ => by
    have e := desk_get hk
    have : h.desks.set k (h.desk k ++ []) = h.desks := by
      rw [List.append_nil]
      obtain ⟨h1, h2⟩ := List.getElem?_eq_some_iff.mp e
      rw [← h2]
      exact List.set_getElem_self h1
    show h = _
    rw [List.filter_nil, this]
  | d :: m, h, hk, hn => by
    obtain ⟨n1, n2⟩ := List.nodup_cons.mp hn
    rw [List.foldl_cons]
    by_cases hd : d ∈ h.desk k
    · rw [learns_yes hd, foldl_learns m h hk n2, List.filter_cons_of_neg (by simpa using hd)]
    · rw [learns_no hd, foldl_learns m _ (by simpa using hk) n2, List.filter_cons_of_pos (by simpa using hd)]
      have e := desk_set (h := h) (k := k) (l := h.desk k ++ [d]) hk k
      rw [if_pos rfl] at e
      rw [e]
      have ef : m.filter (fun x => !(h.desk k ++ [d]).contains x) = m.filter fun x => !(h.desk k).contains x := by
        refine List.filter_congr fun x hx => ?_
        have : x ≠ d := fun q => n1 (q ▸ hx)
        simp [this]
      rw [ef]
      simp [List.set_set, List.append_assoc]
/-- what another replica knows and this one doesn't -/
def news (h : House) (k j : Nat) : List Deed := (Sq34.sorted (h.desk j)).filter fun d => !(h.desk k).contains d
def met (h : House) (k j : Nat) : House := { h with desks := (h.desks.set k (h.desk k ++ news h k j)).set j (h.desk j ++ news h j k) }
theorem sorted_nodup {l : List Deed} (O : OkL l) (hn : l.Nodup) : (Sq34.sorted l).Nodup := (sorted_perm O.dst).symm.nodup hn
theorem news_self {h : House} (O : Ok h) {k : Nat} (hk : k < h.desks.length) : news h k k = [] := by
  unfold news
  rw [List.filter_eq_nil_iff]
  intro d hd
  have := (sorted_mem (O.desk (desk_mem hk)).dst).mp hd
  simpa using this
theorem meet_eq {h : House} (O : Ok h) {k j : Nat} (hk : k < h.desks.length) (hj : j < h.desks.length) :
    (Sq34.sorted (h.desk k)).foldl (fun (g : House) d => g.learns j d) ((Sq34.sorted (h.desk j)).foldl (fun (g : House) d => g.learns k d) h) = met h k j := by
  have Nk := sorted_nodup (O.desk (desk_mem hk)) (O.nd _ (desk_mem hk))
  have Nj := sorted_nodup (O.desk (desk_mem hj)) (O.nd _ (desk_mem hj))
  rw [foldl_learns _ h hk Nj, foldl_learns _ _ (by simpa using hj) Nk]
  by_cases e : j = k
  · subst e
    have hself : h.desks.set j (h.desk j) = h.desks := by
      obtain ⟨h1, h2⟩ := List.getElem?_eq_some_iff.mp (desk_get hk)
      rw [← h2]
      exact List.set_getElem_self h1
    have n := news_self O hk
    have n' : (Sq34.sorted (h.desk j)).filter (fun d => !(h.desk j).contains d) = [] := n
    unfold met
    rw [n, n', List.append_nil, hself]
    show House.mk _ _ = _
    have : ({ all := h.all, desks := h.desks } : House) = h := rfl
    rw [this, n', List.append_nil]
  · rw [desk_set hk, if_neg e]
    rfl
theorem Ok.met {h : House} (O : Ok h) {k j : Nat} (hk : k < h.desks.length) (hj : j < h.desks.length) : Ok (Pv.met h k j) := by
  have key : ∀ a b : Nat, a < h.desks.length → b < h.desks.length → (∀ d ∈ h.desk a ++ news h a b, d ∈ h.all) ∧ (h.desk a ++ news h a b).Nodup := fun a b ha hb => by
    have hin : ∀ d ∈ news h a b, d ∈ h.desk b ∧ d ∉ h.desk a := fun d hd => by
      obtain ⟨q1, q2⟩ := List.mem_filter.mp hd
      exact ⟨(sorted_mem (O.desk (desk_mem hb)).dst).mp q1, by simpa using q2⟩
    refine ⟨fun d hd => ?_, List.nodup_append.mpr ⟨O.nd _ (desk_mem ha), (sorted_nodup (O.desk (desk_mem hb)) (O.nd _ (desk_mem hb))).filter _, fun x hx y hy e => ?_⟩⟩
    · rcases List.mem_append.mp hd with q | q
      · exact desk_all O q
      · exact desk_all O (hin d q).1
    · exact (hin y hy).2 (e ▸ hx)
  have k1 := key k j hk hj
  have k2 := key j k hj hk
  have O1 := O.set hk k1.1 k1.2 fun d hd => List.mem_append_left _ hd
  refine Ok.set O1 (k := j) (l := h.desk j ++ news h j k) (by simpa using hj) k2.1 k2.2 fun d hd => ?_
  rw [desk_set hk] at hd
  split at hd
  · rename_i e
    subst e
    rw [news_self O hj] at hd ⊢
    exact hd
  · exact List.mem_append_left _ hd
theorem Ok.learns {h : House} (O : Ok h) {k : Nat} {d : Deed} (hk : k < h.desks.length) (hd : d ∈ h.all) : Ok (h.learns k d) := by
  by_cases hm : d ∈ h.desk k
  · rw [learns_yes hm]
    exact O
  · rw [learns_no hm]
    refine O.set hk (fun e he => ?_) (List.nodup_append.mpr ⟨O.nd _ (desk_mem hk), by simp, fun a ha b hb => ?_⟩) fun e he => List.mem_append_left _ he
    · rcases List.mem_append.mp he with q | q
      · exact desk_all O q
      · rw [List.mem_singleton.mp q]; exact hd
    · rw [List.mem_singleton] at hb
      subst hb
      intro e
      exact hm (e ▸ ha)
theorem asked_ok {h : House} (O : Ok h) {k i : Nat} {f : List Deed → House × Sq34.Out} (hf : ∀ l, (f l).1 = h) : Ok (h.asked k i f).1 := by
  unfold House.asked
  split
  · exact O
  · split
    · exact O
    · rw [hf]
      exact O
theorem Ok.step {h : House} (O : Ok h) (c : Sq34.Call) : Ok (h.step c).1 := by
  cases c with
  | begin_ n =>
    unfold House.step
    simp only
    split
    · exact O
    · rename_i q
      have : Sq28.HANDS = 8 := rfl
      exact Ok.begun (by omega) (by omega)
  | move k x u v =>
    unfold House.step
    simp only
    split
    · exact O
    · rename_i q1
      split
      · exact O
      · rename_i q2
        split
        · exact O
        · rename_i q3
          have e : (House.learns ⟨h.all ++ [made h k x u v], h.desks⟩ k (made h k x u v)) = Pv.moved h k x u v := moved_eq O
          have h64 : Sq28.THINGS = 64 := rfl
          have h80 : Sq34.DEEDS = 80 := rfl
          show Ok (House.learns ⟨h.all ++ [made h k x u v], h.desks⟩ k (made h k x u v))
          rw [e]
          exact O.moved (by omega) (by omega) (by omega) (by omega) (by omega)
  | tell i k =>
    unfold House.step
    simp only
    cases e : h.all[i]? with
    | none => exact O
    | some d =>
      simp only
      split
      · exact O
      · exact O.learns (by omega) (List.mem_of_getElem? e)
  | meet k j =>
    unfold House.step
    simp only
    split
    · exact O
    · rename_i q
      simp only
      rw [meet_eq O (by omega) (by omega)]
      exact O.met (by omega) (by omega)
  | as_ k i c a =>
    unfold House.step
    simp only
    exact asked_ok O fun l => rfl
  | line k i c a x =>
    unfold House.step
    simp only
    exact asked_ok O fun l => by split <;> rfl
  | whose k i c a x =>
    unfold House.step
    simp only
    exact asked_ok O fun l => by split <;> rfl
  | between k i c a j e b =>
    unfold House.step
    simp only
    exact asked_ok O fun l => by split <;> rfl
  | life k x =>
    unfold House.step
    simp only
    split <;> exact O
  | since k x =>
    unfold House.step
    simp only
    split
    · exact O
    · split <;> exact O
  | surprises k =>
    unfold House.step
    simp only
    split <;> exact O
  | learned k =>
    unfold House.step
    simp only
    split <;> exact O
end Pv
end
section
set_option maxRecDepth 100000
set_option maxHeartbeats 2000000
namespace Pv
/-! ### the calls, one behind another -/
/-- how many numbers a call has -/
def numb : List Nat := [0, 1, 4, 2, 2, 4, 5, 5, 7, 2, 2, 1, 1]
def iz (l : List Nat) : List Int := l.map fun (n : Nat) => (n : Int)
theorem shape_inv {p : Int} {n k : Nat} (h : PySq34.shape p = some (n, k)) : ∃ q : Nat, 1 ≤ q ∧ q ≤ 12 ∧ p = (q : Int) ∧ k = 0 ∧ numb[q]? = some n := by
  unfold PySq34.shape at h
  by_cases h1 : p = 1
  · rw [if_pos h1] at h; injection h with h; injection h with a b; exact ⟨1, by omega, by omega, h1, b.symm, by rw [← a]; rfl⟩
  rw [if_neg h1] at h
  by_cases h1 : p = 2
  · rw [if_pos h1] at h; injection h with h; injection h with a b; exact ⟨2, by omega, by omega, h1, b.symm, by rw [← a]; rfl⟩
  rw [if_neg h1] at h
  by_cases h1 : p = 3
  · rw [if_pos h1] at h; injection h with h; injection h with a b; exact ⟨3, by omega, by omega, h1, b.symm, by rw [← a]; rfl⟩
  rw [if_neg h1] at h
  by_cases h1 : p = 4
  · rw [if_pos h1] at h; injection h with h; injection h with a b; exact ⟨4, by omega, by omega, h1, b.symm, by rw [← a]; rfl⟩
  rw [if_neg h1] at h
  by_cases h1 : p = 5
  · rw [if_pos h1] at h; injection h with h; injection h with a b; exact ⟨5, by omega, by omega, h1, b.symm, by rw [← a]; rfl⟩
  rw [if_neg h1] at h
  by_cases h1 : p = 6
  · rw [if_pos h1] at h; injection h with h; injection h with a b; exact ⟨6, by omega, by omega, h1, b.symm, by rw [← a]; rfl⟩
  rw [if_neg h1] at h
  by_cases h1 : p = 7
  · rw [if_pos h1] at h; injection h with h; injection h with a b; exact ⟨7, by omega, by omega, h1, b.symm, by rw [← a]; rfl⟩
  rw [if_neg h1] at h
  by_cases h1 : p = 8
  · rw [if_pos h1] at h; injection h with h; injection h with a b; exact ⟨8, by omega, by omega, h1, b.symm, by rw [← a]; rfl⟩
  rw [if_neg h1] at h
  by_cases h1 : p = 9
  · rw [if_pos h1] at h; injection h with h; injection h with a b; exact ⟨9, by omega, by omega, h1, b.symm, by rw [← a]; rfl⟩
  rw [if_neg h1] at h
  by_cases h1 : p = 10
  · rw [if_pos h1] at h; injection h with h; injection h with a b; exact ⟨10, by omega, by omega, h1, b.symm, by rw [← a]; rfl⟩
  rw [if_neg h1] at h
  by_cases h1 : p = 11
  · rw [if_pos h1] at h; injection h with h; injection h with a b; exact ⟨11, by omega, by omega, h1, b.symm, by rw [← a]; rfl⟩
  rw [if_neg h1] at h
  by_cases h1 : p = 12
  · rw [if_pos h1] at h; injection h with h; injection h with a b; exact ⟨12, by omega, by omega, h1, b.symm, by rw [← a]; rfl⟩
  rw [if_neg h1] at h
  cases h
theorem calls_cons {f : Nat} {p : Int} {r : List Int} {cs : List (List (List Int))} (h : PyFlat.calls PySq34.shape f (p :: r) = some cs) :
    ∃ (q n f' : Nat) (cs' : List (List (List Int))), 1 ≤ q ∧ q ≤ 12 ∧ p = (q : Int) ∧ numb[q]? = some n ∧ n ≤ r.length ∧ cs = [p :: r.take n] :: cs' ∧ PyFlat.calls PySq34.shape f' (r.drop n) = some cs' := by
  cases f with
  | zero => rw [PyFlat.calls] at h; cases h
  | succ f =>
    simp only [PyFlat.calls, PyFlat.call] at h
    cases hs : PySq34.shape p with
    | none => simp only [hs] at h; cases h
    | some nk =>
      obtain ⟨n, k⟩ := nk
      simp only [hs] at h
      obtain ⟨q, h1, h2, h3, rfl, h5⟩ := shape_inv hs
      simp only [PyFlat.rows] at h
      by_cases hl : r.length < n
      · rw [if_pos hl] at h; cases h
      · rw [if_neg hl] at h
        simp only at h
        cases hc : PyFlat.calls PySq34.shape f (r.drop n) with
        | none => rw [hc] at h; cases h
        | some cs' =>
          rw [hc] at h
          exact ⟨q, n, f, cs', h1, h2, h3, h5, by omega, (Option.some.inj h).symm, hc⟩
theorem calls_nil {f : Nat} {cs : List (List (List Int))} (h : PyFlat.calls PySq34.shape f [] = some cs) : cs = [] := by
  cases f <;> (rw [PyFlat.calls] at h; exact (Option.some.inj h).symm)
theorem whole_id (c : List (List Int)) : PySq34.whole c = c := by
  unfold PySq34.whole
  split <;> rfl
def mkCall : Nat → List Nat → Option Sq34.Call
  | 1, [a] => some (.begin_ a)
  | 2, [a, b, c, d] => some (.move a b c d)
  | 3, [a, b] => some (.tell a b)
  | 4, [a, b] => some (.meet a b)
  | 5, [a, b, c, d] => some (.as_ a b c d)
  | 6, [a, b, c, d, e] => some (.line a b c d e)
  | 7, [a, b, c, d, e] => some (.whose a b c d e)
  | 8, [a, b, c, d, e, f, g] => some (.between a b c d e f g)
  | 9, [a, b] => some (.life a b)
  | 10, [a, b] => some (.since a b)
  | 11, [a] => some (.surprises a)
  | 12, [a] => some (.learned a)
  | _, _ => none
theorem len1 {l : List Nat} (h : l.length = 1) : ∃ a, l = [a] := by
  match l, h with
  | [a], _ => exact ⟨a, rfl⟩
theorem len2 {l : List Nat} (h : l.length = 2) : ∃ a b, l = [a, b] := by
  match l, h with
  | [a, b], _ => exact ⟨a, b, rfl⟩
theorem len4 {l : List Nat} (h : l.length = 4) : ∃ a b c d, l = [a, b, c, d] := by
  match l, h with
  | [a, b, c, d], _ => exact ⟨a, b, c, d, rfl⟩
theorem len5 {l : List Nat} (h : l.length = 5) : ∃ a b c d e, l = [a, b, c, d, e] := by
  match l, h with
  | [a, b, c, d, e], _ => exact ⟨a, b, c, d, e, rfl⟩
theorem len7 {l : List Nat} (h : l.length = 7) : ∃ a b c d e f g, l = [a, b, c, d, e, f, g] := by
  match l, h with
  | [a, b, c, d, e, f, g], _ => exact ⟨a, b, c, d, e, f, g, rfl⟩
/-- the call that the numbers tell, and its step in the specification -/
theorem mk_step {q n : Nat} {args : List Nat} (h1 : 1 ≤ q) (h12 : q ≤ 12) (hn : numb[q]? = some n) (hl : args.length = n) :
    ∃ cl, mkCall q args = some cl ∧ ∀ s, Sq34Neutral.step s [(q : Int) :: iz args] = ((Sq34.House.step s cl).1, (Sq34.House.step s cl).2.value :: (Sq34.House.step s cl).2.out) := by
  have hq : q = 1 ∨ q = 2 ∨ q = 3 ∨ q = 4 ∨ q = 5 ∨ q = 6 ∨ q = 7 ∨ q = 8 ∨ q = 9 ∨ q = 10 ∨ q = 11 ∨ q = 12 := by omega
  rcases hq with rfl | rfl | rfl | rfl | rfl | rfl | rfl | rfl | rfl | rfl | rfl | rfl <;> (have hn' := Option.some.inj hn; subst hn')
  · obtain ⟨a, rfl⟩ := len1 hl
    exact ⟨_, rfl, fun s => rfl⟩
  · obtain ⟨a, b, c, d, rfl⟩ := len4 hl
    exact ⟨_, rfl, fun s => rfl⟩
  · obtain ⟨a, b, rfl⟩ := len2 hl
    exact ⟨_, rfl, fun s => rfl⟩
  · obtain ⟨a, b, rfl⟩ := len2 hl
    exact ⟨_, rfl, fun s => rfl⟩
  · obtain ⟨a, b, c, d, rfl⟩ := len4 hl
    exact ⟨_, rfl, fun s => rfl⟩
  · obtain ⟨a, b, c, d, e, rfl⟩ := len5 hl
    exact ⟨_, rfl, fun s => rfl⟩
  · obtain ⟨a, b, c, d, e, rfl⟩ := len5 hl
    exact ⟨_, rfl, fun s => rfl⟩
  · obtain ⟨a, b, c, d, e, f, g, rfl⟩ := len7 hl
    exact ⟨_, rfl, fun s => rfl⟩
  · obtain ⟨a, b, rfl⟩ := len2 hl
    exact ⟨_, rfl, fun s => rfl⟩
  · obtain ⟨a, b, rfl⟩ := len2 hl
    exact ⟨_, rfl, fun s => rfl⟩
  · obtain ⟨a, rfl⟩ := len1 hl
    exact ⟨_, rfl, fun s => rfl⟩
  · obtain ⟨a, rfl⟩ := len1 hl
    exact ⟨_, rfl, fun s => rfl⟩
/-- what the calls from a house on tell -/
def tells (h : Sq34.House) (cs : List (List (List Int))) : List Int := PyFlat.told (PyFlat.played Sq34Neutral.step h cs)
theorem tells_nil (h : Sq34.House) : tells h [] = [] := rfl
theorem tells_cons {h h' : Sq34.House} {c : List (List Int)} {cs : List (List (List Int))} {out : List Int} (e : Sq34Neutral.step h c = (h', out)) : tells h (c :: cs) = ((out.length : Int) :: out) ++ tells h' cs := by
  unfold tells
  show PyFlat.told ((Sq34Neutral.step h c).2 :: PyFlat.played Sq34Neutral.step (Sq34Neutral.step h c).1 cs) = _
  rw [e]
  unfold PyFlat.told
  rw [List.flatMap_cons]
theorem answers_start {l : List Int} {raw : List (List (List Int))} (h : PyFlat.calls PySq34.shape l.length l = some raw) : PySq34.answers l = tells Sq34.fresh raw := by
  unfold PySq34.answers PySq34.calls
  rw [h]
  simp only
  have e : raw.map PySq34.whole = raw := by
    have : PySq34.whole = id := by funext c; exact whole_id c
    rw [this, List.map_id]
  rw [e]
  rfl
theorem asked_start {l : List Int} (h : PySq34.answers_asked l = true) : ∃ raw, PyFlat.calls PySq34.shape l.length l = some raw ∧ (PySq34.answers l).length ≤ 10000000 := by
  unfold PySq34.answers_asked at h
  cases e : PyFlat.calls PySq34.shape l.length l with
  | none => rw [e] at h; cases h
  | some raw =>
    rw [e] at h
    simp only [Bool.and_eq_true] at h
    exact ⟨raw, rfl, of_decide_eq_true h.2⟩
end Pv
end
section
set_option maxRecDepth 100000
set_option maxHeartbeats 4000000
namespace PvR
open PySem PySem.Spec PyProof.Rows L2
/-! ### sorted(xs, key=f), f an own def that hands back a pair of ints -/
/-- what a raw key says -/
def kOf (h : Heap) : Value → Int × Int
  | .ref a => match h.get? a with
    | some o => match o.data with
      | .seq items _ => match items.toList with
        | [.int i _, .int j _] => (i, j)
        | _ => (0, 0)
      | _ => (0, 0)
    | none => (0, 0)
  | _ => (0, 0)
theorem kOf_pair {h : Heap} {v : Value} {i j : Int} (p : Srt.IsPair h v i j) : kOf h v = (i, j) := by
  obtain ⟨a, o, t, u, n, rfl, ho, hc, hd⟩ := p
  unfold kOf
  simp only [ho, hd]
theorem run_fnA {X : Cx} {A : Around} {k : Nat} {f : Addr} {fd : FuncData} {ps : List Str} {sp : Sp} {E : Value → Shared → Prop} {pins : List (Addr × Obj)} {σ : L2.St} {H : Hp} {s : Shared} {Q : VK} {us : List Value} {vs : List V}
    (F : FnOk X.prog X.w X.K X.mg X.base CX0 k f fd ps sp) (hr : Room k A) (e0 : Env0 X.prog X.w X.K X.mg X.base A X.stack s H) (hb : Binds X.K fd ps [])
    (I : Inv X pins σ H s) (r : Vals vs us) (h : sp vs H Q E0) : wpAny (model X.prog X.w) A (call (.ref f) us) (EP X pins σ Q) E s := by
  have hl : us.length = ps.length := by rw [← r.length]; exact F.len _ _ _ _ h
  have hb' : BindsTo s fd ⟨us, []⟩ (ps.zip us) := by
    have := hb s us I.kIn (by rw [List.append_nil]; exact hl)
    rwa [List.append_nil] at this
  refine wpAny_call (codeAny_mono (F.run A X.stack s H ⟨us, []⟩ us vs Q E0 hr e0 hb' r h) fun r s' hq => ?_)
  cases r with
  | error e => exact False.elim hq
  | ok fl =>
    cases fl with
    | ret u => exact I.after hq
    | next => exact False.elim hq
    | brk => exact False.elim hq
    | cont => exact False.elim hq
def rSortedF (K : PySem.W.Frag) (f : Addr) (sp : Sp) : List V → List V → Hp → VK → Prop := fun vs zs H Q => ∃ (a : Addr) (xs : List V) (kf : V → Int × Int), vs = [V.ref a] ∧ zs = [V.ref f] ∧ SqL K H a xs ∧ (∀ x ∈ xs, ∃ b, x = V.ref b) ∧
  (∀ x ∈ xs, ∀ (H' : Hp) (Q' : VK), Same H H' → (∀ (t : Addr) (H'' : Hp), Same H' H'' → H' t = none → H'' t = some (.tup [.int (kf x).1, .int (kf x).2]) → Q' (.ref t) H'') → sp [x] H' Q' E0) ∧
  ∀ (out : List V) (p : Addr) (H' : Hp), out.Perm xs → out.Pairwise (fun x y => SrtO.lexB (kf y) (kf x) = false) → Same H H' → H p = none → H' p = some (.lst out) → Q (.ref p) H'
theorem same_upd {H : Hp} {p : Addr} {o : HO} (h : H p = none) : Same H (upd H p o) := fun b u e => by
  rw [upd_ne (ne_of_none e h)]
  exact e
section
variable {X : Cx} {k : Nat} {f : Addr} {fd : FuncData} {ps : List Str} {sp : Sp}
theorem cr_sortedF (F : FnOk X.prog X.w X.K X.mg X.base CX0 k f fd ps sp) (hr : Room (k + 2) X.A) (hb : Binds X.K fd ps []) : CallRK X (.builtin "sorted") [Str.ofString "key"] (rSortedF X.K f sp) := by
  intro pins s σ H vs zs us ws Q I r rz h
  obtain ⟨a, xs, kf, rfl, rfl, hs, hrefs, hsp, q⟩ := h
  obtain rfl := Vals.ref1 r
  obtain ⟨w1, rfl, e1⟩ := vals1 rz
  obtain rfl : w1 = Value.ref f := e1
  obtain ⟨its, rv, hl, hz⟩ := I.list hs
  have hlen : its.length = xs.length := rv.length.symm
  have hz' : its.length ≤ sizeLine := by rw [hlen]; exact hz
  obtain ⟨exs, erf⟩ := refs_back rv hrefs
  show wpAny _ X.A (call (.builtin "sorted") [.ref a] [(Str.ofString "key", .ref f)]) _ _ s
  refine call_function_entry_kw kind_sorted plain_sorted entry_sorted (ksk_s1 _ _) ?_
  unfold Builtin.«sorted»
  refine wpAny_bind (m := checkCount "sorted" 1 1 _) (wpAny_pure ?_)
  refine wpAny_bind (collect_list hl.isList ?_ hz')
  refine wpAny_bind (wpAny_newList ?_ hz')
  have hsz : ((s.heap.push (seqObj "list" #[] 0)).update s.heap.objs.size (Obj.mapSeq (· ++ its.toArray))).objs.size = s.heap.objs.size + 1 := by
    rw [Heap.size_update, size_push']
  have hoL : (((s.heap.push (seqObj "list" #[] 0)).update s.heap.objs.size (Obj.mapSeq (· ++ its.toArray))).push (seqObj "list" its.toArray 0)).get? (s.heap.objs.size + 1) = some (seqObj "list" its.toArray 0) := by
    rw [← hsz]; exact Heap.get?_push_size _ rfl
  have keep : ∀ b o, s.heap.get? b = some o → (((s.heap.push (seqObj "list" #[] 0)).update s.heap.objs.size (Obj.mapSeq (· ++ its.toArray))).push (seqObj "list" its.toArray 0)).get? b = some o := fun b o q => by
    have hlt : b < s.heap.objs.size := Heap.lt_size q
    refine Heap.get?_push_of_some _ ?_
    rw [Heap.get?_update_ne _ _ _ _ (Nat.ne_of_lt hlt)]
    exact Heap.get?_push_of_some _ q
  show wpAny _ _ _ _ _ { s with heap := ((s.heap.push (seqObj "list" #[] 0)).update s.heap.objs.size (Obj.mapSeq (· ++ its.toArray))).push (seqObj "list" its.toArray 0) }
  rw [hsz]
  generalize hh1 : ((s.heap.push (seqObj "list" #[] 0)).update s.heap.objs.size (Obj.mapSeq (· ++ its.toArray))).push (seqObj "list" its.toArray 0) = h1 at hoL keep ⊢
  generalize hL : s.heap.objs.size + 1 = L at hoL ⊢
  have hLn : s.heap.objs.size ≤ L := by rw [← hL]; exact Nat.le_succ _
  refine wpAny_bind (wpAny_holding (wpAny_call_entry_kw slot_list_sort ⟨_, hoL, rfl⟩ entry_list_sort ?_ (ksk_l1 _ _)))
  rw [ksk_t1]
  unfold ksk_tree
  refine wpAny_bind (listItems_at hoL rfl ?_)
  refine wpAny_bind (listUpdate_at hoL rfl ?_ (by rw [List.size_toArray]; exact hz') (Nat.zero_le _))
  obtain ⟨ep, hoL2⟩ : ∃ ep, (h1.update L (Obj.mapSeq fun _ => (#[] : Array Value))).get? L = some (seqObj "list" #[] ep) := ⟨_, get?_update_seq hoL (fun _ => #[])⟩
  refine wpAny_bind (seqEpoch_at hoL2 rfl ?_)
  have keep2 : ∀ b o, s.heap.get? b = some o → (h1.update L (Obj.mapSeq fun _ => (#[] : Array Value))).get? b = some o := fun b o q => by
    have hlt : b < s.heap.objs.size := Heap.lt_size q
    rw [Heap.get?_update_ne _ _ _ _ (Nat.ne_of_lt (Nat.lt_of_lt_of_le hlt hLn))]
    exact keep b o q
  generalize hh2 : h1.update L (Obj.mapSeq fun _ => (#[] : Array Value)) = h2 at hoL2 keep2 ⊢
  have fL : H L = none := I.hok.fresh hLn
  have I1 : Inv X pins σ (upd H L (.lst [])) { s with heap := h2 } := I.laid (t' := s.toks) keep2 hLn ⟨Nat.zero_le _, [], ep, .nil, hoL2⟩
  have nof := I1.nofrz (d := L) upd_same trivial
  obtain ⟨od, I2⟩ := I1.lock (d := L) upd_same trivial
  have eod : od = seqObj "list" #[] ep := by
    have z : ObjOk X.prog X.w _ h2 L (.frz od (.lst [])) := I2.hok L _ upd_same
    have z1 : h2.get? L = some od := z.1
    rw [hoL2] at z1
    exact (Option.some.inj z1).symm
  subst eod
  rw [upd_upd] at I2
  refine wpAny_bind (wpAny_newTuple ?_ (by show its.length ≤ _; exact hz'))
  refine wpAny_bind (wpAny_newList ?_ (Nat.zero_le _))
  refine wpAny_holding ?_
  have I3 : Inv X pins σ (upd H L (.frz (seqObj "list" #[] ep) (.lst []))) { s with heap := h2.push (seqObj "tuple" its.toArray 0) } := I2.kept (t' := s.toks) fun b o e => Heap.get?_push_of_some _ e
  show wpAny _ X.A.in1.in1 (ksk_rest L (.ref f) false its.toArray ep (.ref (h2.push (seqObj "tuple" its.toArray 0)).objs.size)) _ _ { s with heap := (h2.push (seqObj "tuple" its.toArray 0)).push (seqObj "list" #[] 0) }
  generalize hh3 : h2.push (seqObj "tuple" its.toArray 0) = h3 at I3 ⊢
  have I4 : Inv X pins σ (upd (upd H L (.frz (seqObj "list" #[] ep) (.lst []))) h3.objs.size (.lst [])) { s with heap := h3.push (seqObj "list" #[] 0) } :=
    I3.laid (t' := s.toks) (fun b o e => Heap.get?_push_of_some _ e) (Nat.le_refl _) ⟨Nat.zero_le _, [], 0, .nil, Heap.get?_push_size _ rfl⟩
  have fS : (upd H L (.frz (seqObj "list" #[] ep) (.lst []))) h3.objs.size = none := I3.hok.fresh (Nat.le_refl _)
  have hS0 : H h3.objs.size = none := (same_upd fL).free fS
  have nLS : L ≠ h3.objs.size := fun e => by
    rw [← e, upd_same] at fS
    cases fS
  show wpAny _ X.A.in1.in1 (ksk_rest L (.ref f) false its.toArray ep (.ref h3.objs.size)) _ _ { s with heap := h3.push (seqObj "list" #[] 0) }
  generalize hkS : h3.objs.size = kS at I4 hS0 nLS
  unfold ksk_rest
  refine wpAny_bind (wpAny_rule ?_)
  first
    | rw [List.forIn_toArray]
    | (rw [← Array.forIn_toList]; simp only [List.toList_toArray])
    | rw [← Array.forIn_toList]
  refine wpAny_bind (ksk_fold (fun j s' => ∃ (Hj : Hp) (ts : List V), Inv X pins σ Hj s' ∧ Same H Hj ∧ Hj L = some (.frz (seqObj "list" #[] ep) (.lst [])) ∧ Hj kS = some (.lst ts) ∧ ts.length = j ∧
    ∀ (i : Nat) (t : V), ts[i]? = some t → ∃ (x : V) (b : Addr), xs[i]? = some x ∧ t = V.ref b ∧ Hj b = some (.tup [.int (kf x).1, .int (kf x).2])) its 0 _ ?h0 ?step ?done)
  case h0 =>
    refine ⟨_, [], I4, fun b o e => ?_, ?_, upd_same, rfl, fun i t e => by simp at e⟩
    · rw [upd_ne (ne_of_none e hS0), upd_ne (ne_of_none e fL)]
      exact e
    · rw [upd_ne nLS, upd_same]
  case step =>
    rintro j u s' hu ⟨Hj, ts, Ij, sj, hLj, hkj, hlj, hkey⟩
    simp only [Nat.zero_add] at hlj ⊢
    obtain ⟨x, hx, ru⟩ : ∃ x, xs[j]? = some x ∧ RelV x u := by
      have hj : j < xs.length := by
        have := (List.getElem?_eq_some_iff.mp hu).1
        omega
      obtain ⟨u2, hu2, rx2⟩ := rv.get (i := j) (x := xs[j]) (List.getElem?_eq_getElem hj)
      have eu : u2 = u := Option.some.inj (hu2.symm.trans hu)
      subst eu
      exact ⟨xs[j], List.getElem?_eq_getElem hj, rx2⟩
    have hxm : x ∈ xs := List.mem_of_getElem? hx
    have hj : j < xs.length := (List.getElem?_eq_some_iff.mp hx).1
    have e0 : Env0 X.prog X.w X.K X.mg X.base X.A.in1.in1 X.stack s' Hj := Ij.env0.in1.in1
    refine wpAny_bind (wpAny_attempt (thn (run_fnA (Q := fun v H'' => ∃ t, v = .ref t ∧ Same Hj H'' ∧ Hj t = none ∧ H'' t = some (.tup [.int (kf x).1, .int (kf x).2])) F hr.in1.in1 e0 hb Ij (.cons ru .nil) (hsp x hxm Hj _ sj fun t H'' h1 h2 h3 => ⟨t, rfl, h1, h2, h3⟩)) fun v s'' hv => ?_))
    obtain ⟨v', H'', I'', rv', t, rfl, sm, ht0, ht⟩ := hv
    obtain rfl : v = Value.ref t := rv'
    dsimp only
    have hk'' := sm _ _ hkj
    obtain ⟨_, tis, n, rts, hob⟩ : ObjOk X.prog X.w H'' s''.heap kS (.lst ts) := I''.hok kS _ hk''
    have hl1 : tis.length = ts.length := rts.length.symm
    refine wpAny_bind (listUpdate_at hob rfl ?_ (by rw [List.size_toArray]; omega) (by rw [Array.size_push, List.size_toArray]; omega))
    obtain ⟨ep2, ho2⟩ : ∃ ep2, (s''.heap.update kS (Obj.mapSeq (·.push (Value.ref t)))).get? kS = some (seqObj "list" (tis.toArray.push (Value.ref t)) ep2) := ⟨_, get?_update_seq hob (·.push (Value.ref t))⟩
    have Iw : Inv X pins σ (upd H'' kS (.lst (ts ++ [V.ref t]))) { s'' with heap := s''.heap.update kS (Obj.mapSeq (·.push (Value.ref t))) } := by
      refine I''.write (x := kS) (e := kS) (t' := s''.toks) (by rw [hk'']; trivial) (.inl rfl) (fun b u hb hu => ?_) ⟨_, ho2⟩ ⟨?_, tis ++ [Value.ref t], ep2, rts.append (.cons rfl .nil), ?_⟩
      · rw [Heap.get?_update_ne _ _ _ _ hb]
        exact hu
      · rw [List.length_append, List.length_singleton, hlj]
        have := hz
        omega
      · have ea : tis.toArray.push (Value.ref t) = (tis ++ [Value.ref t]).toArray := by simp
        rw [ea] at ho2
        exact ho2
    refine wpAny_pure ⟨rfl, _, _, Iw, ?_, ?_, upd_same, ?_, ?_⟩
    · intro b o e
      have z := sm _ _ (sj b o e)
      rw [upd_ne (ne_of_none e hS0)]
      exact z
    · rw [upd_ne nLS]
      exact sm _ _ hLj
    · rw [List.length_append, hlj]
      rfl
    · intro i t' ei
      have tn : ∀ {b : Addr} {c : List V}, H'' b = some (.tup c) → b ≠ kS := fun hb e => by
        rw [e, hk''] at hb
        cases hb
      rw [List.getElem?_append] at ei
      split at ei
      · obtain ⟨x', b, h1, h2, h3⟩ := hkey i t' ei
        have h4 := sm _ _ h3
        exact ⟨x', b, h1, h2, by rw [upd_ne (tn h4)]; exact h4⟩
      · rename_i hni
        have hi : i = ts.length := by
          have := (List.getElem?_eq_some_iff.mp ei).1
          simp at this
          omega
        subst hi
        simp at ei
        refine ⟨x, t, by rw [hlj]; exact hx, ei.symm, by rw [upd_ne (tn ht)]; exact ht⟩
  case done =>
    rintro s' ⟨Hj, ts, Ij, sj, hLj, hkj, hlj, hkey⟩
    rw [Nat.zero_add] at hlj
    obtain ⟨_, tis, n, rts, hob⟩ : ObjOk X.prog X.w Hj s'.heap kS (.lst ts) := Ij.hok kS _ hkj
    have hl1 : tis.length = ts.length := rts.length.symm
    have hoLj : s'.heap.get? L = some (seqObj "list" #[] ep) := by
      have z : ObjOk X.prog X.w Hj s'.heap L (.frz (seqObj "list" #[] ep) (.lst [])) := Ij.hok L _ hLj
      exact z.1
    have Iu := Ij.unlock hLj nof
    try dsimp only
    refine wpAny_bind (listItems_at hob rfl ?_)
    -- the raw keys
    have hpair : ∀ (i : Nat) (v : Value), tis[i]? = some v → ∃ x, xs[i]? = some x ∧ Srt.IsPair s'.heap v (kf x).1 (kf x).2 := fun i v hv => by
      have hi : i < ts.length := by
        have := (List.getElem?_eq_some_iff.mp hv).1
        omega
      obtain ⟨v2, hv2, rv2⟩ := rts.get (i := i) (x := ts[i]) (List.getElem?_eq_getElem hi)
      have ev : v2 = v := Option.some.inj (hv2.symm.trans hv)
      subst ev
      obtain ⟨x, b, h1, h2, h3⟩ := hkey i _ (List.getElem?_eq_getElem hi)
      rw [h2] at rv2
      obtain rfl : v2 = Value.ref b := rv2
      obtain ⟨_, its2, r2, o, ho, hc, n, hd⟩ : ObjOk X.prog X.w Hj s'.heap b (.tup _) := Ij.hok b _ h3
      obtain ⟨u1, u2, rfl, ri, rj⟩ := vals2 r2
      obtain ⟨t1, rfl⟩ := ri
      obtain ⟨t2, rfl⟩ := rj
      exact ⟨x, h1, b, o, t1, t2, n, rfl, ho, hc, hd⟩
    have hpk : ∀ v ∈ tis, Srt.IsPair s'.heap v (kOf s'.heap v).1 (kOf s'.heap v).2 := fun v hv => by
      obtain ⟨i, hi⟩ := List.getElem?_of_mem hv
      obtain ⟨x, _, hp⟩ := hpair i v hi
      rw [kOf_pair hp]
      exact hp
    have hzip : ∀ p : Keyed, p ∈ tis.zip its → kOf s'.heap p.1 = kf (backV p.2) ∧ p.2 ∈ its := fun p hp => by
      obtain ⟨i, hi⟩ := List.getElem?_of_mem hp
      rw [List.getElem?_zip_eq_some] at hi
      obtain ⟨h1, h2⟩ := hi
      obtain ⟨x, hx, hpr⟩ := hpair i p.1 h1
      refine ⟨?_, List.mem_of_getElem? h2⟩
      rw [kOf_pair hpr]
      have : xs[i]? = some (backV p.2) := by
        rw [exs, List.getElem?_map, h2]
        rfl
      rw [hx] at this
      rw [Option.some.inj this]
    -- the end, from a sorted state
    have fin : ∀ st' : SortSt, (arrOf st').toList.Perm (tis.zip its) → SrtO.Srtd (SrtO.lt2 fun v u => SrtO.lexB (kOf s'.heap v) (kOf s'.heap u)) (arrOf st').toList → failedOf st' = none →
        wpAny (model X.prog X.w) X.A.in1.in1 (ksk_tail L false ep (.ref kS) st') (fun r s => ∃ v, r = .done (.ret v) ∧ wpAny (model X.prog X.w) X.A.in1 (pure (Fin.done (Flow.ret (Value.ref L)))) (fun r s => ∃ v, r = Fin.done (Flow.ret v) ∧ EP X pins σ Q v s) X.xe s) X.xe s' := by
      intro st' hp hso hfl
      have hmem : ∀ p, p ∈ (arrOf st').toList → p ∈ tis.zip its := fun p hp' => hp.mem_iff.mp hp'
      have hsz' : (arrOf st').size ≤ its.length := by
        have := hp.length_eq
        rw [Array.length_toList, List.length_zip] at this
        omega
      unfold ksk_tail
      try dsimp only
      refine wpAny_bind (listUpdate_at hob rfl ?_ (by rw [List.size_toArray]; omega) (Nat.zero_le _))
      refine wpAny_bind (wpAny_letGo ?_)
      obtain ⟨ep3, ho3⟩ : ∃ ep3, (s'.heap.update kS (Obj.mapSeq fun _ => (#[] : Array Value))).get? kS = some (seqObj "list" #[] ep3) := ⟨_, get?_update_seq hob (fun _ => #[])⟩
      have hoL3 : (s'.heap.update kS (Obj.mapSeq fun _ => (#[] : Array Value))).get? L = some (seqObj "list" #[] ep) := by
        rw [Heap.get?_update_ne _ _ _ _ nLS]
        exact hoLj
      refine wpAny_bind (seqEpoch_at hoL3 rfl ?_)
      have hkL : (upd Hj L (.lst [])) kS = some (.lst ts) := by rw [upd_ne (Ne.symm nLS)]; exact hkj
      have J1 : Inv X pins σ (upd (upd Hj L (.lst [])) kS (.lst [])) { s' with heap := s'.heap.update kS (Obj.mapSeq fun _ => (#[] : Array Value)) } := by
        refine Iu.write (x := kS) (e := kS) (t' := s'.toks) (by rw [hkL]; trivial) (.inl rfl) (fun b u hb hu => ?_) ⟨_, ho3⟩ ⟨Nat.zero_le _, [], ep3, .nil, ho3⟩
        rw [Heap.get?_update_ne _ _ _ _ hb]
        exact hu
      generalize hg : s'.heap.update kS (Obj.mapSeq fun _ => (#[] : Array Value)) = g at ho3 hoL3 J1 ⊢
      try simp only [Bool.false_eq_true, if_false]
      refine wpAny_bind (listUpdate_at hoL3 rfl ?_ (Nat.zero_le _) (by rw [Array.size_map]; omega))
      obtain ⟨ep4, ho4⟩ : ∃ ep4, (g.update L (Obj.mapSeq fun _ => (arrOf st').map (·.2))).get? L = some (seqObj "list" ((arrOf st').map (·.2)) ep4) := ⟨_, get?_update_seq hoL3 (fun _ => (arrOf st').map (·.2))⟩
      rw [hfl]
      simp only [bne_self_eq_false, Bool.false_eq_true, if_false]
      have hL4 : (upd (upd Hj L (.lst [])) kS (.lst [])) L = some (.lst []) := by rw [upd_ne nLS, upd_same]
      have hrf : ∀ u ∈ (arrOf st').toList.map (fun p : Keyed => p.2), ∃ b, u = Value.ref b := fun u hu => by
        obtain ⟨p, hp', rfl⟩ := List.mem_map.mp hu
        exact erf _ (hzip p (hmem p hp')).2
      have ea : (arrOf st').map (·.2) = ((arrOf st').toList.map (fun p : Keyed => p.2)).toArray := by
        apply Array.ext'
        rw [Array.toList_map]
      have hperm : ((arrOf st').toList.map (fun p : Keyed => p.2)).Perm its := by
        have z := hp.map (fun p : Keyed => p.2)
        have e2 : (tis.zip its).map (fun p : Keyed => p.2) = its := List.map_snd_zip (by omega)
        rw [e2] at z
        exact z
      have hlen4 : (((arrOf st').toList.map (fun p : Keyed => p.2)).map backV).length ≤ sizeLine := by
        rw [List.length_map, hperm.length_eq]
        exact hz'
      have J2 : Inv X pins σ (upd (upd (upd Hj L (.lst [])) kS (.lst [])) L (.lst (((arrOf st').toList.map (fun p : Keyed => p.2)).map backV))) { s' with heap := g.update L (Obj.mapSeq fun _ => (arrOf st').map (·.2)) } := by
        refine J1.write (x := L) (e := L) (t' := s'.toks) (by rw [hL4]; trivial) (.inl rfl) (fun b u hb hu => ?_) ⟨_, ho4⟩ ⟨hlen4, _, ep4, vals_back hrf, ?_⟩
        · rw [Heap.get?_update_ne _ _ _ _ hb]
          exact hu
        · rw [← ea]
          exact ho4
      refine wpAny_pure ⟨_, rfl, wpAny_pure ⟨_, rfl, .ref L, _, J2, rfl, q _ L _ ?_ ?_ ?_ fL upd_same⟩⟩
      · have z := hperm.map backV
        rw [← exs] at z
        exact z
      · rw [List.map_map]
        refine List.pairwise_map.mpr (List.Pairwise.imp_of_mem (fun {x y} hx hy hxy => ?_) hso)
        show SrtO.lexB (kf (backV y.2)) (kf (backV x.2)) = false
        rw [← (hzip y (hmem y hy)).1, ← (hzip x (hmem x hx)).1]
        exact hxy
      · intro b o e
        have n1 := ne_of_none e fL
        rw [upd_ne n1, upd_ne (ne_of_none e hS0), upd_ne n1]
        exact sj b o e
    have est : (tis.toArray.zip its.toArray).toList = tis.zip its := by
      simp
    unfold ksk_end
    try dsimp only
    try simp only [Bool.false_eq_true, if_false]
    by_cases h2 : its.toArray.size < 2
    · rw [if_pos h2, if_pos h2]
      refine wpAny_bind (wpAny_pure ?_)
      rw [StateT.run_pure]
      refine wpAny_bind (wpAny_pure ?_)
      try dsimp only
      refine fin (SortSt.mk' general' (tis.toArray.zip its.toArray) #[] 7 none) ?_ ?_ rfl
      · show ((tis.toArray.zip its.toArray).toList).Perm _
        rw [est]
      · show SrtO.Srtd _ (tis.toArray.zip its.toArray).toList
        rw [est]
        have hl2 : (tis.zip its).length < 2 := by
          rw [List.length_zip]
          rw [List.size_toArray] at h2
          omega
        match hm : tis.zip its, hl2 with
        | [], _ => exact List.Pairwise.nil
        | [v], _ => exact List.pairwise_singleton _ _
        | _ :: _ :: l, h => exact absurd h (by simp)
    · rw [if_neg h2, if_neg h2]
      rw [List.size_toArray] at h2
      have SO := SrtO.pairs_sortableO (prog := X.prog) (w := X.w) (A := X.A.in1.in1) (s := s') (a := L) (vs := tis) (k := kOf s'.heap) (by omega) hpk (fun o e => by
        rw [hoLj] at e
        cases e
        exact fun z => by
          injection z with z3
          exact absurd z3 (by decide))
      obtain ⟨κ, hkind, hT⟩ := SO s'.heap fun b o _ e => e
      refine wpAny_bind (hkind _ _ ?_)
      have hall : SrtO.AllL (fun p : Keyed => p.1 ∈ tis) (tis.toArray.zip its.toArray).toList := fun p hm => by
        rw [est] at hm
        obtain ⟨i, hi⟩ := List.getElem?_of_mem hm
        rw [List.getElem?_zip_eq_some] at hi
        exact List.mem_of_getElem? hi.1
      refine wpAny_bind (wpAny_mono (SrtO.wpS_sortO (st0 := SortSt.mk' κ (tis.toArray.zip its.toArray) #[] 7 none)
        (Q := fun _ st' => SrtO.Srtd (SrtO.lt2 fun v u => SrtO.lexB (kOf s'.heap v) (kOf s'.heap u)) (arrOf st').toList ∧ SrtO.Stb (SrtO.lt2 fun v u => SrtO.lexB (kOf s'.heap v) (kOf s'.heap u)) (arrOf st').toList (tis.toArray.zip its.toArray).toList ∧ failedOf st' = none)
        (SrtO.swo2 (SrtO.swo_lex (kOf s'.heap))) hT rfl hall rfl rfl fun st' a1 a2 a3 => ⟨a1, a2, a3⟩) ?_ fun _ _ e => e)
      rintro ⟨⟨⟩, st'⟩ s'' ⟨rfl, hp1, hp2, hf⟩
      try dsimp only
      refine fin st' ?_ hp1 hf
      have z := hp2.perm
      rw [est] at z
      exact z
end
end PvR
end
section
set_option maxRecDepth 100000
set_option maxHeartbeats 4000000
namespace PySem
namespace RefX
open PySem.W PySem.Calls PyProof.Rows PySem.HandSPX
/-! ### the text of __init__ -/
def iA (p1 p2 : Pos) : Arguments := { posonlyargs := [], args := [{ arg := "self", annotation := none, pos := p1 }, { arg := "code", annotation := none, pos := p2 }], vararg := none, kwonlyargs := [], kw_defaults := [], kwarg := none, defaults := [] }
def iB (q1 q2 q3 q4 : Pos) : List Stmt := [.Assign [.Attribute (.Name "self" q1) "code" q2] (.Name "code" q3) q4]
def iS : Scope := { kind := .function, names := [(PySem.Str.ofString "self", .local), (PySem.Str.ofString "code", .local)], isGenerator := false, isCoroutine := false, more := [] }
/-- what the written part says of Low, at C, and of its __init__, at fI -/
structure RefTxt (K : Frag) (mg : Str → Option Value) (C fI : Addr) : Prop where
  gC : mg "Refusal" = some (.ref C)
  cls : ∃ nm q N bs bm sn sub ab col dd k0 k1 k2 k3 k5, K.lookup C = some (excClassObj nm q C N bs bm true sn sub ab col dd k0 k1 k2 k3 k5 "ValueError.__new__") ∧ refsVE bm = true
  sa : findIn K (.ref C) "__setattr__" = some (some (.builtin "object.__setattr__"))
  ga : findIn K (.ref C) "__getattribute__" = some (some (.builtin "BaseException.__getattribute__"))
  gg : findIn K (.ref C) "__getattr__" = some none
  noN : findIn K (.ref C) "code" = some none
  iC : findIn K (.ref C) "__init__" = some (some (.ref fI))
  tC : typeIn K (.ref fI) = some (.type "function")
  kC : keepIn K (.ref C) = true
  exC : subIn K (.ref C) (.type "BaseException") = some true
  tyC : typeIn K (.ref C) = some (.type "type")
  hdC : hasDictIn K C = true
  te : exmOne K (.ref C) (.ref C) = some true
  fn : ∃ (oc : Value) (od : Option Addr) (doc pm : Value) (an : Option Addr) (cdv ct : Value) (osl : Array (Option Value)) (p1 p2 q1 q2 q3 q4 : Pos),
    K.lookup fI = some ⟨oc, od, .func (fnOf "__init__" "Refusal.__init__" (iA p1 p2) (iB q1 q2 q3 q4) iS .none .none doc pm an cdv ct), osl⟩ ∧ codeIn K cdv "Refusal.__init__" = true
theorem one_size (v : Value) : [v].length ≤ sizeLine := by
  rw [sizeLine_eq]
  exact (by decide : 1 ≤ 16777216)
theorem kept_but {K : Frag} {h h' : Heap} {x : Addr} (X : K.In h) (hx : K.lookup x = none) (k : ∀ b o, b ≠ x → h.get? b = some o → h'.get? b = some o) : K.In h' := fun a o e =>
  k a o (fun z => by rw [z, hx] at e; cases e) (X a o e)
theorem ldC {M : Model} {s : Shared} {name : Str} {scope : Scope} {L a : Addr} {cd : Value} {m : Str → Option Value} {x : Str} {pos : Pos} {v : Value} {Q : Value → Shared → Prop} {A : Around} {E : Value → Shared → Prop} (hn : s.heap.Ns L m) (hv : m x = some v) (h : Q v s)
    (hk : scope.kind = .function := by rfl) (hl : (envOfC name scope L a cd).kindOf x = some .local := by rfl) (hd : (x == ("__debug__" : Str)) = false := by decide) :
    wpAny M A (eval (.Name x pos) (envOfC name scope L a cd)) Q E s := wpAny_Name (wpAny_loadName_local hk hl hn hv h) hd
/-- what __init__ leaves of a fresh exception at x -/
structure InitEnd (h h' : Heap) (x C dx t1 : Addr) (v : Value) : Prop where
  keep : ∀ b o, b ≠ x → h.get? b = some o → h'.get? b = some o
  obj : h'.get? x = some { cls := .ref C, dict := some dx, data := .fields #[.ref t1, .none, .none, .none, .bool false, .none] }
  dbig : h.objs.size ≤ dx
  dne : dx ≠ x
  ns : h'.Ns1 dx (fun y => if y = "code" then some v else none)
/-- a made Low -/
structure OwnMade (h h' : Heap) (e C d : Addr) (v : Value) : Prop where
  keep : ∀ b o, h.get? b = some o → h'.get? b = some o
  new : h.objs.size ≤ e
  obj : ∃ oe vs, h'.get? e = some oe ∧ oe.cls = .ref C ∧ oe.dict = some d ∧ oe.data = .fields vs ∧ vs[1]? = some .none
  dbig : h.objs.size ≤ d
  dne : d ≠ e
  ns : h'.Ns1 d (fun y => if y = "code" then some v else none)
section
variable {prog : Program} {w : World} {A : Around} {E : Value → Shared → Prop} {R : Result → Shared → Prop} {s : Shared} {K : Frag} {mg : Str → Option Value} {C fI : Addr}
theorem ref_init (T : RefTxt K mg C fI) {x t0 : Addr} {v : Value} (X : K.In s.heap) (hlim : s.heap.NoLimit) (hx : s.heap.get? x = some (excO C t0)) (hnx : K.lookup x = none) (hroom : A.depth < recursionLimit)
    (hq : ∀ h' tk dx, InitEnd s.heap h' x C dx t0 v → R (.ok (.ret .none)) { s with heap := h', toks := tk }) :
    codeAny (model prog w) A (.call (.ref fI) ⟨[.ref x, v], []⟩) R s := by
  obtain ⟨oc, od, doc, pm, an, cdv, ct, osl, p1, p2, q1, q2, q3, q4, ho, hcd⟩ := T.fn
  obtain ⟨nm, q, N, bs, bm, sn, sub, ab, col, dd, k0, k1, k2, k3, k5, hC, hbm⟩ := T.cls
  have hcl : clsIn K C = some { name := nm, bases := bs, mro := .ref C :: bm, ns := N, qualname := q, hasDict := true, slotNames := sn, subclasses := sub, abstract := ab, collection := col, hasDel := false } := by unfold clsIn; rw [hC] <;> rfl
  refine Att.call_fn (binds := [("self", .ref x), ("code", v)]) X hlim ho hcd hroom (BindsTo.of_eq (by first | rfl | with_unfolding_all rfl)) (by first | rfl | decide | with_unfolding_all rfl) (fun s₁ IC => ?_) rfl rfl rfl
  obtain ⟨h₁, tk₁, rfl⟩ := IC.toInCall.same
  have k : ∀ b o, s.heap.get? b = some o → h₁.get? b = some o := IC.toInCall.keep
  have hn := IC.toInCall.ns
  have hxL : s.heap.objs.size ≠ x := Nat.ne_of_gt (Heap.lt_size hx)
  have X₁ : K.In h₁ := X.keeps k
  have hx₁ := k _ _ hx
  -- self.by = by
  show wpAny _ _ (execs _ _) _ _ _
  refine wpAny_execs_cons (plainObj_wpAny_Assign_Attribute ?_)
  refine ldC (v := v) hn (by first | rfl | with_unfolding_all rfl | kernel_rfl) (ldC (v := .ref x) hn (by first | rfl | with_unfolding_all rfl | kernel_rfl) ?_)
  refine set_plain X₁ (ox := excO C t0) (od := none) ⟨hx₁, rfl, rfl, trivial⟩ T.sa ?_
  refine exc_osa X₁ hx₁ hcl (show refsVE (.ref C :: bm) = true from hbm) rfl T.noN (fun h₃ tk₃ dx k₃ dn dne hx₃ hn₃ => ?_)
  show wpAny _ _ (execs _ _) _ _ _
  have z : s.heap.objs.size < h₁.objs.size := hn.lt
  exact wpAny_execs_nil (hq h₃ tk₃ dx ⟨fun b o hb e => k₃ b o hb (k b o e), hx₃, Nat.le_of_lt (Nat.lt_of_lt_of_le z dn), dne, hn₃⟩)
theorem ref_made (T : RefTxt K mg C fI) {v : Value} (X : K.In s.heap) (hlim : s.heap.NoLimit) (hroom : A.depth + 1 < recursionLimit)
    (hq : ∀ h' tk e d, OwnMade s.heap h' e C d v → R (.ok (.ret (.ref e))) { s with heap := h', toks := tk }) :
    codeAny (model prog w) A (.call (.ref C) ⟨[v], []⟩) R s := by
  obtain ⟨nm, q, N, bs, bm, sn, sub, ab, col, dd, k0, k1, k2, k3, k5, hC, hbm⟩ := T.cls
  obtain ⟨hp, g, dr, tk, os⟩ := s
  have k : ∀ b o, hp.get? b = some o → ((hp.push (kdv_tup [v])).push (excO C hp.objs.size)).get? b = some o := fun b o e => Heap.get?_push_of_some _ (Heap.get?_push_of_some _ e)
  have hget : ((hp.push (kdv_tup [v])).push (excO C hp.objs.size)).get? (hp.objs.size + 1) = some (excO C hp.objs.size) := by heap_get
  have hnx : K.lookup (hp.objs.size + 1) = none := by
    cases e : K.lookup (hp.objs.size + 1) with
    | none => rfl
    | some o =>
      have z : hp.get? (hp.objs.size + 1) = some o := X _ _ e
      exact absurd (Nat.lt_of_succ_lt (Heap.lt_size z)) (Nat.lt_irrefl _)
  refine call_own F.excBase_ValueError (fun X => refsVE_contains X bm hbm) (X _ _ hC) (looks_findIn X T.iC) (fun self => bind_fn X self T.tC) (one_size v) ?_
  refine ref_init (s := ⟨(hp.push (kdv_tup [v])).push (excO C hp.objs.size), g, dr, tk, os⟩) T (X.keeps k) (hlim.keeps k) hget hnx ?_ fun h' tk' dx ⟨k', hx, dn, dne, hns⟩ => ?_
  · show A.depth + 1 < recursionLimit
    exact hroom
  · have old : ∀ b o, hp.get? b = some o → h'.get? b = some o := fun b o e => k' b o (Nat.ne_of_lt (Nat.lt_succ_of_lt (Heap.lt_size e))) (k b o e)
    have z : hp.objs.size + 1 + 1 ≤ dx := by
      first
        | (simpa only [Heap.size_push] using dn)
        | exact dn
        | (have q := dn; rw [Heap.size_push, Heap.size_push] at q; exact q)
    exact ⟨rfl, hq h' tk' (hp.objs.size + 1) dx ⟨old, Nat.le_succ _, ⟨_, _, hx, rfl, rfl, rfl, rfl⟩, Nat.le_trans (Nat.le_trans (Nat.le_succ _) (Nat.le_succ _)) z, dne, hns⟩⟩
end
end RefX
end PySem
namespace L2
open PySem PySem.Spec PyProof.Rows
theorem relO_ref {v : V} {v' : Value} (r : RelV v v') (f : Str) : RelO (List.lookup f [(("code" : Str), v)]) (if f = "code" then some v' else none) := by
  by_cases hw : f = "code"
  · subst hw
    rw [if_pos rfl]
    have q : List.lookup ("code" : Str) [(("code" : Str), v)] = some v := by simp [List.lookup]
    rw [q]
    exact r
  · rw [if_neg hw]
    have qw : (f == ("code" : Str)) = false := by simpa using hw
    have q2 : List.lookup f [(("code" : Str), v)] = none := by simp [List.lookup, qw]
    rw [q2]
    trivial
section
variable {X : Cx} {C fI : Addr}
/-- Low(e) -/
def tMkRef (C : Addr) (ta : TA) : St → Hp → XK → Prop := fun σ H Q => ta σ H fun vs H1 => ∃ v, vs = [v] ∧ ∀ d, H1 d = none → Q (.ref C) (some d) (upd H1 d (.xd [(("code" : Str), v)]))
theorem pmk_ref {a : Expr} {ta : TA} {p pos : Pos} {k : Nat} (T : PySem.RefX.RefTxt X.K X.mg C fI) (hr : Room k X.A) (ha : PA X [a] ta) (hg : Gl X "Refusal" := by rfl)
    (he : starEach (a :: []) X.env = (false, eval a X.env) :: starEach [] X.env := by rfl) (hpl : (backTo pos (starEach [] X.env)).any (·.1) = false := by rfl) :
    PMk X (.Call (.Name "Refusal" p) [a] [] pos) (tMkRef C ta) := by
  intro pins s σ H Q I h
  refine wpAny_Call_Name_kw (ld_glob I hg T.gC ?_)
  refine PySem.W.callWith_K (h₀ := X.base) I.ok.mod.kin T.kC (thn (ha.run pos pins s σ H _ I h) fun us s1 hh => ?_) he hpl
  obtain ⟨vs, H1, I1, r1, v, ev, q1⟩ := hh
  subst ev
  refine ⟨I1.kIn, ?_⟩
  cases r1 with
  | cons rv rn =>
    rename_i v' us'
    cases rn
    show wpAny _ _ (call (.ref C) [v']) _ _ _
    have hlim := I1.nolimit
    obtain ⟨hp, g, dr, tk, os⟩ := s1
    refine wpAny_call (PySem.RefX.ref_made T I1.kIn hlim (by have := hr.dp; omega) fun h' tk' e d M => ?_)
    show MkP X pins σ Q (.ref e) ⟨h', g, dr, tk', os⟩
    obtain ⟨oe, fv, hoe, hc, hd, hdat, h1⟩ := M.obj
    have hns := M.ns
    obtain ⟨G', g1, g2⟩ := restrict h' fun b => decide (b ≠ e)
    have gk : ∀ b, b ≠ e → G'.get? b = h'.get? b := fun b hb => g1 b (decide_eq_true hb)
    have ge : G'.get? e = none := g2 e (by simp)
    have old : ∀ b o, hp.get? b = some o → G'.get? b = some o := fun b o q => (gk b (Nat.ne_of_lt (Nat.lt_of_lt_of_le (Heap.lt_size q) M.new))).trans (M.keep b o q)
    have ob : ObjOk X.prog X.w (upd H1 d (.xd [(("code" : Str), v)])) G' d (.xd [(("code" : Str), v)]) :=
      ⟨_, hns.at (fun o q => (gk d M.dne).trans q), fun f => relO_ref rv f⟩
    have J : Inv X pins σ (upd H1 d (.xd [(("code" : Str), v)])) ⟨G', g, dr, tk', os⟩ := I1.laid (t' := tk') old M.dbig ob
    refine ⟨e, oe, fv, ⟨G', g, dr, tk', os⟩, _, .ref C, some d, rfl, J, fun b o q => ?_, ge, hoe, ⟨hc, hd⟩, hdat, h1, ?_, rfl, I1.bare, raises_own T.exC T.tyC, q1 d (I1.hok.fresh M.dbig)⟩
    · by_cases hb : b = e
      · have q' : G'.get? b = some o := q
        rw [hb, ge] at q'; cases q'
      · exact (gk b hb).symm.trans q
    · rw [upd_ne (Ne.symm M.dne)]
      exact I1.hok.fresh M.new
/-- raise Low(e) -/
def tRaiseRef (C : Addr) (W : WX) (ta : TA) : TS := fun _ σ H => tMkRef C ta σ H fun cls d H' => W cls d σ H'
theorem ps_raiseRef {a : Expr} {ta : TA} {W : WX} {p pos pos2 : Pos} {k : Nat} (hc : X.calm = true) (T : PySem.RefX.RefTxt X.K X.mg C fI) (hr : Room k X.A) (tk : Takes X W) (ha : PA X [a] ta) (hg : Gl X "Refusal" := by rfl)
    (he : starEach (a :: []) X.env = (false, eval a X.env) :: starEach [] X.env := by rfl) (hpl : (backTo pos (starEach [] X.env)).any (·.1) = false := by rfl) :
    PS X (.Raise (some (.Call (.Name "Refusal" p) [a] [] pos)) none pos2) (tRaiseRef C W ta) := ps_raise hc tk (pmk_ref T hr ha hg he hpl)
/-- low.by, low the exception that the suite holds (at a; its class cls, its dict d) -/
def tByRef (C : Addr) (a : Addr) (cls : Value) (d : Option Addr) (te : TE) : TE := fun σ H Q => te σ H fun x H1 => x = .ref a ∧ cls = .ref C ∧ ∃ (dd : Addr) (v : V), d = some dd ∧ H1 dd = some (.xd [(("code" : Str), v)]) ∧ Q v H1
theorem pe_byRef {a : Addr} {oe : Obj} {cls : Value} {d : Option Addr} {pn : List (Addr × Obj)} {e : Expr} {te : TE} {pos : Pos} (T : PySem.RefX.RefTxt X.K X.mg C fI) (hz : Zc cls d oe) (hf : ∃ vs, oe.data = .fields vs) (he : PE (X.suite a ((a, oe) :: pn)) e te)
    (hb : attributeBase e "code" X.env (eval e X.env) = eval e X.env := by rfl) :
    PE (X.suite a ((a, oe) :: pn)) (.Attribute e "code" pos) (tByRef C a cls d te) := by
  refine ⟨fun pins s σ H Q I h => ?_⟩
  refine attr_of hb (thn (he.run pins s σ H _ I h) fun u s1 hh => ?_)
  obtain ⟨x, H1, I1, rx, ex, ec, dd, v, ed, ea, q⟩ := hh
  subst ex
  obtain rfl : u = Value.ref a := rx
  subst ec
  subst ed
  obtain ⟨ha, _⟩ := I1.pin (a, oe) (List.mem_append_left _ List.mem_cons_self)
  obtain ⟨vs, hd⟩ := hf
  have hx : ObjOk X.prog X.w H1 s1.heap dd (.xd [(("code" : Str), v)]) := I1.hok dd _ ea
  obtain ⟨mA, hns, hr⟩ := hx
  obtain ⟨od, ho, hl⟩ := lookIn_ns hns
  have l : List.lookup ("code" : Str) [(("code" : Str), v)] = some v := by simp [List.lookup]
  obtain ⟨u, hu, ru⟩ := RelO.some_of (v := v) (o := mA "code") (by rw [← l]; exact hr "code")
  have J : PySem.W.InstAt s1.heap a oe C (some od) := ⟨ha, hz.1, by unfold PySem.W.notCls; rw [hd] <;> rfl, by rw [hz.2]; exact ho⟩
  exact HandSPX.exc_get I1.kIn J T.ga T.gg T.exC (PySem.W.findObj_own T.hdC T.noN rfl (by rw [hl, hu])) (handed_of ru) ⟨v, H1, I1.tok _, ru, q⟩
end
end L2


namespace PvR
open PySem PySem.Spec PyProof.Rows L2
/-- an if whose test is known -/
theorem if_true_of {c : Bool} {A B : Prop} (hc : c = true) (h : A) : if c = true then A else B := by
  rw [if_pos hc]
  exact h
theorem if_false_of {c : Bool} {A B : Prop} (hc : c = false) (h : B) : if c = true then A else B := by
  rw [hc, if_neg Bool.false_ne_true]
  exact h
section
variable {X : Cx}
/-! ### max(xs, default=d), xs a list of ints -/
def maxOr (d : Int) : List Int → Int
  | [] => d
  | n :: r => r.foldl max n
def rMaxDf (K : PySem.W.Frag) : List V → List V → Hp → VK → Prop := fun vs zs H Q => ∃ (a : Addr) (ns : List Int) (d : Int), vs = [V.ref a] ∧ zs = [V.int d] ∧ SqL K H a (ns.map V.int) ∧ Q (.int (maxOr d ns)) H
theorem dpAll_ints {K : PySem.W.Frag} {H : Hp} : ∀ ns : List Int, DpAll K H (ns.map V.int) (ns.map PyData.int)
  | [] => .nil
  | n :: r => .cons (.int n) (dpAll_ints r)
theorem depth_ints : ∀ ns : List Int, PyData.depthAll (ns.map PyData.int) = 0
  | [] => rfl
  | n :: r => by
    show max (PyData.depth (.int n)) (PyData.depthAll (r.map PyData.int)) = 0
    rw [depth_ints r]
    rfl
theorem cr_maxDf {k : Nat} (hc : X.calm = true) (hr : Room k X.A) : CallRK X (.builtin "max") [Str.ofString "default"] (rMaxDf X.K) := by
  intro pins s σ H vs zs us ws Q I r rz h
  obtain ⟨a, ns, d, rfl, rfl, hs, q⟩ := h
  obtain rfl := Vals.ref1 r
  obtain ⟨w1, rfl, e1⟩ := vals1 rz
  obtain ⟨t1, rfl⟩ := e1
  obtain ⟨its, rv, hl, hz⟩ := I.list hs
  obtain ⟨as, hrd⟩ := Dp.readsAll I (ns.map PyData.int) (ns.map V.int) its (dpAll_ints ns) rv
  have hu := hr.un
  show wpAny _ X.A (call (.builtin "max") [.ref a] [(Str.ofString "default", .int d t1)]) _ _ s
  refine PySem.W.max_list_default (as := as) (xs := ns.map PyData.int) (I.ok.hd hc) hl.isList (by simpa using hrd) ⟨fun x hx y hy => ?_, fun x hx => ?_⟩ (by rw [depth_ints]; omega) (fun e h' tk hk => ?_) (fun y ys i v h' tk bs e _ hrd hk => ?_)
  · obtain ⟨n, _, rfl⟩ := List.mem_map.mp hx
    obtain ⟨m, _, rfl⟩ := List.mem_map.mp hy
    first | rfl | simp [PySem.SeqAt.alike]
  · obtain ⟨n, _, rfl⟩ := List.mem_map.mp hx
    exact fun z => nomatch z
  · have en : ns = [] := by simpa using e
    subst en
    exact ⟨.int d, H, I.kept hk, ⟨_, rfl⟩, q⟩
  · cases ns with
    | nil => cases e
    | cons n r =>
      have e1 : PyData.int n = y := (List.cons.inj e).1
      have e2 : r.map PyData.int = ys := (List.cons.inj e).2
      subst e1
      subst e2
      rw [PySem.W.maxD_ints] at hrd
      cases hrd
      exact ⟨.int _, H, I.kept hk, ⟨_, rfl⟩, q⟩
/-! ### xs != [], whatever xs holds -/
def rNeNil (K : PySem.W.Frag) : R2 := fun x y H Q => ∃ (a b : Addr) (xs : List V), x = .ref a ∧ y = .ref b ∧ SqL K H a xs ∧ SqL K H b [] ∧ Q (.bl (!xs.isEmpty)) H
theorem op_neNil {k : Nat} (hr : Room k X.A) : OpR X (compareOp .NotEq) (rNeNil X.K) := by
  intro pins s σ H x y v u Q I rx ry h
  obtain ⟨a, b, xs, rfl, rfl, ha, hb, q⟩ := h
  cases rx
  cases ry
  obtain ⟨its, rv, hl, _⟩ := I.list ha
  obtain ⟨its2, rv2, hl2, _⟩ := I.list hb
  cases rv2
  have hu := hr.un
  cases rv with
  | nil =>
    exact PySem.SeqAt.RcNeAt.lists (e := fun _ => true) hl.isList hl2.isList rfl (by omega) (fun j h1 _ => absurd h1 (by simp)) X.prog X.w _ _ ⟨.bl _, H, I, rfl, q⟩
  | cons r1 r2 =>
    exact PySem.SeqAt.RcNeAt.lists_lengths hl.isList hl2.isList (by simp) (by omega) X.prog X.w _ _ ⟨.bl _, H, I, rfl, q⟩
/-! ### a call of a local name that holds one of several defs that may raise -/
structure HeldX (P : Program) (w : World) (K : PySem.W.Frag) (mg : Str → Option Value) (base : Heap) (k : Nat) (f : Addr) (sp : Sp) : Prop where
  ex : ∃ (fd : FuncData) (ps : List Str), FnOk P w K mg base (L2.CX P w) k f fd ps sp ∧ PySem.W.keepIn K (.ref f) = true ∧ Binds K fd ps []
def tCallH (P : Program) (w : World) (K : PySem.W.Frag) (mg : Str → Option Value) (base : Heap) (k i : Nat) (E : L2.St → XK) (t : TA) : TE := fun σ H Q => ∃ f sp, σ[i]? = some (some (.ref f)) ∧ HeldX P w K mg base k f sp ∧ t σ H fun vs H1 => sp vs H1 Q (E σ)
theorem pe_callH {k i : Nat} {E : L2.St → XK} {x : Str} {p pos : Pos} {e : Expr} {es : List Expr} {t : TA} (hr : Room k X.A) (hN : X.N[i]? = some x) (hv : Vis X.env.scope x) (hx : ∀ σ, PassesAt (L2.CX X.prog X.w) X σ (E σ)) (ha : PA X (e :: es) t)
    (hdb : (x == ("__debug__" : Str)) = false := by decide) (hcd : (x == ("__classdict__" : Str)) = false := by decide)
    (he : starEach (e :: es) X.env = (false, eval e X.env) :: starEach es X.env := by rfl) (hpl : (backTo pos (starEach es X.env)).any (·.1) = false := by rfl) :
    PE X (.Call (.Name x p) (e :: es) [] pos) (tCallH X.prog X.w X.K X.mg X.base k i E t) := by
  refine ⟨fun pins s σ H Q I h => ?_⟩
  obtain ⟨f, sp, hs, ⟨fd, ps, F, hk, hb⟩, ht⟩ := h
  refine wpAny_Call_Name_kw (thn ((pe_var (pos := p) hN hv hdb hcd).run pins s σ H (fun v H1 => v = .ref f ∧ H1 = H) I ⟨.ref f, hs, rfl, rfl⟩) fun u s1 ⟨v, H1, I1, r1, q1⟩ => ?_)
  obtain ⟨rfl, rfl⟩ := q1
  cases r1
  refine PySem.W.callWith_K (h₀ := X.base) I.ok.mod.kin hk (thn (ha.run pos pins s1 σ _ _ I1 ht) fun us s2 ⟨vs, H2, I2, r, q⟩ => ⟨I2.kIn, ?_⟩) he hpl
  exact run_fnS F hr hb (hx σ) I2 r q
end
end PvR
end
section
set_option maxRecDepth 100000
set_option maxHeartbeats 4000000
namespace Pv
open PySem PySem.Spec PyProof.Rows L2 PvR
/-! ### paired lists -/
theorem Paired.at_ {α β : Type} {F : α → β → Prop} : ∀ {xs : List α} {ys : List β} {i : Nat} {x : α}, Paired F xs ys → xs[i]? = some x → ∃ y, ys[i]? = some y ∧ F x y
  | _, _, _, _, .nil, e => by simp at e
  | _, _, 0, _, .cons r _, e => by simp at e; subst e; exact ⟨_, rfl, r⟩
  | _, _, i + 1, x, .cons _ t, e => by
    obtain ⟨u, h1, h2⟩ := Paired.at_ (i := i) (x := x) t (by simpa using e)
    exact ⟨u, by simpa using h1, h2⟩
theorem Paired.at2 {α β : Type} {F : α → β → Prop} : ∀ {xs : List α} {ys : List β} {i : Nat} {y : β}, Paired F xs ys → ys[i]? = some y → ∃ x, xs[i]? = some x ∧ F x y
  | _, _, _, _, .nil, e => by simp at e
  | _, _, 0, _, .cons r _, e => by simp at e; subst e; exact ⟨_, rfl, r⟩
  | _, _, i + 1, x, .cons _ t, e => by
    obtain ⟨u, h1, h2⟩ := Paired.at2 (i := i) (y := x) t (by simpa using e)
    exact ⟨u, by simpa using h1, h2⟩
theorem Paired.app {α β : Type} {F : α → β → Prop} : ∀ {xs xs' : List α} {ys ys' : List β}, Paired F xs ys → Paired F xs' ys' → Paired F (xs ++ xs') (ys ++ ys')
  | _, _, _, _, .nil, s => s
  | _, _, _, _, .cons r t, s => .cons r (Paired.app t s)
theorem Paired.tk {α β : Type} {F : α → β → Prop} : ∀ {xs : List α} {ys : List β} (n : Nat), Paired F xs ys → Paired F (xs.take n) (ys.take n)
  | _, _, 0, _ => .nil
  | _, _, _ + 1, .nil => .nil
  | _, _, n + 1, .cons r t => .cons r (Paired.tk n t)
theorem Paired.set_ {α β : Type} {F : α → β → Prop} {x : α} {y : β} (r : F x y) : ∀ {xs : List α} {ys : List β} (i : Nat), Paired F xs ys → Paired F (xs.set i x) (ys.set i y)
  | _, _, _, .nil => .nil
  | _, _, 0, .cons _ t => .cons r t
  | _, _, i + 1, .cons q t => .cons q (Paired.set_ r i t)
theorem Paired.rep {α β : Type} {F : α → β → Prop} {x : α} {y : β} (r : F x y) : ∀ n : Nat, Paired F (List.replicate n x) (List.replicate n y)
  | 0 => .nil
  | n + 1 => .cons r (Paired.rep r n)
theorem Paired.memL {α β : Type} {F : α → β → Prop} {xs : List α} {ys : List β} (h : Paired F xs ys) {x : α} (hx : x ∈ xs) : ∃ y, y ∈ ys ∧ F x y := by
  obtain ⟨i, hi⟩ := List.getElem?_of_mem hx
  obtain ⟨y, h1, h2⟩ := Paired.at_ h hi
  exact ⟨y, List.mem_of_getElem? h1, h2⟩
theorem Paired.map_of {α β : Type} {F : α → β → Prop} {k : α → β} (hk : ∀ x y, F x y → k x = y) : ∀ {xs : List α} {ys : List β}, Paired F xs ys → ys = xs.map k
  | _, _, .nil => rfl
  | _, _, .cons r t => by rw [List.map_cons, hk _ _ r, ← Paired.map_of hk t]
theorem Paired.of_map {α β : Type} {F : α → β → Prop} {k : α → β} : ∀ {xs : List α}, (∀ x ∈ xs, F x (k x)) → Paired F xs (xs.map k)
  | [], _ => .nil
  | x :: xs, h => .cons (h x List.mem_cons_self) (Paired.of_map fun y hy => h y (List.mem_cons_of_mem _ hy))
/-! ### fields by name -/
theorem lk_here {k : Str} {v : V} {r : List (Str × V)} : List.lookup k ((k, v) :: r) = some v := by
  have e : (k == k) = true := beq_self_eq_true k
  simp only [List.lookup, e]
theorem lk_past {k g : Str} {v : V} {r : List (Str × V)} (h : (k == g) = false) : List.lookup k ((g, v) :: r) = List.lookup k r := by
  simp only [List.lookup, h]
theorem put_new {f : Str} {v : V} : ∀ {l : List (Str × V)}, (l.map (·.1)).contains f = false → putF f v l = l ++ [(f, v)]
  | [], _ => rfl
  | (g, x) :: r, h => by
    have h2 : ¬ g = f ∧ (r.map (·.1)).contains f = false := by
      simp only [List.map_cons, List.contains_cons, Bool.or_eq_false_iff] at h
      exact ⟨fun e => by rw [e] at h; simp at h, h.2⟩
    show (if g = f then _ else (g, x) :: putF f v r) = _
    rw [if_neg h2.1, put_new h2.2]
    rfl
/-! ### moves in the heap -/
def mF (d : Sq28.Deed) : List (Str × V) := [("number", .int (d.id : Int)), ("counter", .int (d.stamp.count : Int)), ("origin", .int (d.stamp.hand : Int)), ("node", .int (d.thing : Int)), ("parent", .int (d.under : Int)), ("label", .int (d.label : Int))]
theorem mF_number (d : Sq28.Deed) : (mF d).lookup ("number" : Str) = some (.int (d.id : Int)) := lk_here
theorem mF_counter (d : Sq28.Deed) : (mF d).lookup ("counter" : Str) = some (.int (d.stamp.count : Int)) := (lk_past (by decide +kernel)).trans lk_here
theorem mF_origin (d : Sq28.Deed) : (mF d).lookup ("origin" : Str) = some (.int (d.stamp.hand : Int)) := (lk_past (by decide +kernel)).trans ((lk_past (by decide +kernel)).trans lk_here)
theorem mF_node (d : Sq28.Deed) : (mF d).lookup ("node" : Str) = some (.int (d.thing : Int)) := (lk_past (by decide +kernel)).trans ((lk_past (by decide +kernel)).trans ((lk_past (by decide +kernel)).trans lk_here))
theorem mF_parent (d : Sq28.Deed) : (mF d).lookup ("parent" : Str) = some (.int (d.under : Int)) := (lk_past (by decide +kernel)).trans ((lk_past (by decide +kernel)).trans ((lk_past (by decide +kernel)).trans ((lk_past (by decide +kernel)).trans lk_here)))
theorem mF_label (d : Sq28.Deed) : (mF d).lookup ("label" : Str) = some (.int (d.label : Int)) := (lk_past (by decide +kernel)).trans ((lk_past (by decide +kernel)).trans ((lk_past (by decide +kernel)).trans ((lk_past (by decide +kernel)).trans ((lk_past (by decide +kernel)).trans lk_here))))
theorem mF_inj {d e : Sq28.Deed} (h : mF d = mF e) : d = e := by
  obtain ⟨i, ⟨c, g⟩, t, u, l⟩ := d
  obtain ⟨i', ⟨c', g'⟩, t', u', l'⟩ := e
  unfold mF at h
  simp only [List.cons.injEq, Prod.mk.injEq, V.int.injEq, and_true, true_and, Int.ofNat_inj] at h
  obtain ⟨rfl, rfl, rfl, rfl, rfl, rfl⟩ := h
  rfl
/-- the move d stands at v -/
def MvAt (C : Addr) (H : Hp) (v : V) (d : Sq28.Deed) : Prop := ∃ a dx, v = .ref a ∧ H a = some (.ins C dx (mF d))
abbrev MvsAt (C : Addr) (H : Hp) : List V → List Sq28.Deed → Prop := Paired (MvAt C H)
theorem MvAt.same {C : Addr} {H H' : Hp} {v : V} {d : Sq28.Deed} (s : Same H H') (h : MvAt C H v d) : MvAt C H' v d := by
  obtain ⟨a, dx, e, h⟩ := h
  exact ⟨a, dx, e, s _ _ h⟩
theorem MvAt.inj {C : Addr} {H : Hp} {v : V} {d e : Sq28.Deed} (h : MvAt C H v d) (h' : MvAt C H v e) : d = e := by
  obtain ⟨a, dx, rfl, h⟩ := h
  obtain ⟨a', dx', e1, h'⟩ := h'
  cases e1
  rw [h] at h'
  have := Option.some.inj h'
  injection this with _ _ q
  exact mF_inj q
theorem MvsAt.same {C : Addr} {H H' : Hp} {vs : List V} {ds : List Sq28.Deed} (s : Same H H') (h : MvsAt C H vs ds) : MvsAt C H' vs ds := Paired.mono (fun _ _ q => q.same s) h
open Classical in
/-- which move stands at v -/
noncomputable def kd (C : Addr) (H : Hp) (v : V) : Sq28.Deed := if h : ∃ d, MvAt C H v d then choose h else ⟨0, ⟨0, 0⟩, 0, 0, 0⟩
theorem kd_eq {C : Addr} {H : Hp} {v : V} {d : Sq28.Deed} (h : MvAt C H v d) : kd C H v = d := by
  have ex : ∃ d, MvAt C H v d := ⟨d, h⟩
  unfold kd
  rw [dif_pos ex]
  exact (Classical.choose_spec ex).inj h
theorem MvsAt.kd {C : Addr} {H : Hp} {vs : List V} {ds : List Sq28.Deed} (h : MvsAt C H vs ds) : ds = vs.map (Pv.kd C H) := Paired.map_of (fun _ _ q => kd_eq q) h
theorem MvsAt.mem {C : Addr} {H : Hp} {vs : List V} {ds : List Sq28.Deed} (h : MvsAt C H vs ds) {v : V} (hv : v ∈ vs) : MvAt C H v (Pv.kd C H v) := by
  obtain ⟨d, _, q⟩ := Paired.memL h hv
  rw [kd_eq q]
  exact q
/-! ### a tree in the heap -/
def LocAt (H : Hp) (v : V) : Loc → Prop
  | none => v = .non
  | some (u, l) => ∃ p, v = .ref p ∧ H p = some (.tup [.int (u : Int), .int (l : Int)])
theorem LocAt.same {H H' : Hp} {v : V} {l : Loc} (s : Same H H') (h : LocAt H v l) : LocAt H' v l := by
  cases l with
  | none => exact h
  | some q =>
    obtain ⟨u, l⟩ := q
    obtain ⟨p, e, h⟩ := h
    exact ⟨p, e, s _ _ h⟩
def TreeAt (H : Hp) (a : Addr) (t : Sq28.Tree) : Prop := ∃ xs, H a = some (.lst xs) ∧ Paired (LocAt H) xs (locs t)
theorem TreeAt.same {H H' : Hp} {a : Addr} {t : Sq28.Tree} (s : Same H H') (h : TreeAt H a t) : TreeAt H' a t := by
  obtain ⟨xs, h1, h2⟩ := h
  exact ⟨xs, s _ _ h1, Paired.mono (fun _ _ q => q.same s) h2⟩
theorem TreeAt.get {H : Hp} {xs : List V} {t : Sq28.Tree} (h : Paired (LocAt H) xs (locs t)) {x : Nat} (hx : x < 64) : ∃ v, xs[x]? = some v ∧ LocAt H v (Sq34.place t x) := Paired.at2 h (locs_get hx)
theorem TreeAt.len {H : Hp} {xs : List V} {t : Sq28.Tree} (h : Paired (LocAt H) xs (locs t)) : xs.length = 64 := by rw [h.length, locs_len]
/-! ### the world in the heap -/
structure Cl where
  (M W R D : Addr)
structure WPts where
  (dx pm pl : Addr)
  pks : List Addr
def wF (pm pl : Addr) : List (Str × V) := [("moves", .ref pm), ("learned", .ref pl)]
theorem wF_moves (pm pl : Addr) : (wF pm pl).lookup ("moves" : Str) = some (.ref pm) := lk_here
theorem wF_learned (pm pl : Addr) : (wF pm pl).lookup ("learned" : Str) = some (.ref pl) := (lk_past (by decide +kernel)).trans lk_here
/-- a list of moves at an address -/
def MlAt (C : Addr) (H : Hp) (a : Addr) (l : List Sq28.Deed) : Prop := ∃ vs, H a = some (.lst vs) ∧ MvsAt C H vs l
theorem MlAt.same {C : Addr} {H H' : Hp} {a : Addr} {l : List Sq28.Deed} (s : Same H H') (h : MlAt C H a l) : MlAt C H' a l := by
  obtain ⟨vs, h1, h2⟩ := h
  exact ⟨vs, s _ _ h1, h2.same s⟩
structure WAt (c : Cl) (H : Hp) (pw : Addr) (z : WPts) (h : Sq34.House) : Prop where
  w : H pw = some (.ins c.W z.dx (wF z.pm z.pl))
  m : MlAt c.M H z.pm h.all
  l : H z.pl = some (.lst (z.pks.map V.ref))
  k : Paired (MlAt c.M H) z.pks h.desks
theorem WAt.same {c : Cl} {H H' : Hp} {pw : Addr} {z : WPts} {h : Sq34.House} (s : Same H H') (w : WAt c H pw z h) : WAt c H' pw z h :=
  ⟨s _ _ w.w, w.m.same s, s _ _ w.l, Paired.mono (fun _ _ q => q.same s) w.k⟩
theorem WAt.len {c : Cl} {H : Hp} {pw : Addr} {z : WPts} {h : Sq34.House} (w : WAt c H pw z h) : z.pks.length = h.desks.length := w.k.length
/-- the k-th replica's list -/
theorem WAt.desk {c : Cl} {H : Hp} {pw : Addr} {z : WPts} {h : Sq34.House} (w : WAt c H pw z h) {k : Nat} (hk : k < h.desks.length) : ∃ pk, (z.pks.map V.ref)[k]? = some (.ref pk) ∧ z.pks[k]? = some pk ∧ MlAt c.M H pk (h.desk k) := by
  obtain ⟨pk, h1, h2⟩ := Paired.at2 w.k (desk_get hk)
  refine ⟨pk, ?_, h1, h2⟩
  rw [List.getElem?_map, h1]
  rfl
/-! ### the program's top -/
def top (i : Nat) : Stmt := PySem.Challenge.pw_pastviews_s01_answers.main.body.getD i (.Pass ⟨0, 0, 0, 0⟩)
/-- a def of the top -/
def DefAt (K : PySem.W.Frag) (mg : Str → Option Value) (x : Str) (st : Stmt) : Prop := ∃ f fd, mg x = some (.ref f) ∧ Fun K x x st f fd
/-- a def and the promise that it keeps -/
def Def (P : Program) (w : World) (K : PySem.W.Frag) (mg : Str → Option Value) (base : Heap) (CX : CXT) (k : Nat) (x : Str) (ps : List Str) (sp : Sp) : Prop :=
  ∃ f fd, mg x = some (.ref f) ∧ PySem.W.keepIn K (.ref f) = true ∧ Binds K fd ps [] ∧ FnOk P w K mg base CX k f fd ps sp
def Num (mg : Str → Option Value) (x : Str) (i : Int) : Prop := ∃ t, mg x = some (.int i t)
theorem pe_num {X : Cx} {x : Str} {i : Int} {pos : Pos} (h : Num X.mg x i) (hg : Gl X x := by rfl) (hd : (x == ("__debug__" : Str)) = false := by decide) : PE X (.Name x pos) (tC (.int i)) := by
  obtain ⟨t, h⟩ := h
  exact pe_glob hg h ⟨t, rfl⟩ hd
/-- what the top has written, but the defs -/
structure Txt (K : PySem.W.Frag) (mg : Str → Option Value) (c : Cl) (fR : Addr) : Prop where
  clM : Cls K c.M
  nNumber : NoAttr K c.M "number"
  nCounter : NoAttr K c.M "counter"
  nOrigin : NoAttr K c.M "origin"
  nNode : NoAttr K c.M "node"
  nParent : NoAttr K c.M "parent"
  nLabel : NoAttr K c.M "label"
  gM : mg "Move" = some (.ref c.M)
  clW : Cls K c.W
  nMoves : NoAttr K c.W "moves"
  nLearned : NoAttr K c.W "learned"
  gW : mg "World" = some (.ref c.W)
  clD : Cls K c.D
  nWorld : NoAttr K c.D "world"
  gD : mg "Desk" = some (.ref c.D)
  ref : PySem.RefX.RefTxt K mg c.R fR
  root : Num mg "ROOT" 0
  first : Num mg "FIRST_MOVABLE" 2
  nodes : Num mg "NODES" 64
  done : Num mg "DONE" 1
  noParent : Num mg "NO_PARENT" 2
  circle : Num mg "CIRCLE" 3
  mostRep : Num mg "MOST_REPLICAS" 8
  mostLab : Num mg "MOST_LABEL" 1000000000
  outRange : Num mg "OUT_OF_RANGE" (-1)
  noSuch : Num mg "NO_SUCH" (-2)
  notThere : Num mg "NOT_THERE" (-3)
  mostMov : Num mg "MOST_MOVES" 80
  full : Num mg "FULL" (-5)
  len : mg "len" = none
  range : mg "range" = none
  zip : mg "zip" = none
  enumerate : mg "enumerate" = none
  max : mg "max" = none
  sorted : mg "sorted" = none
end Pv
end
section
set_option maxRecDepth 100000
set_option maxHeartbeats 4000000
namespace Pv
open PySem PySem.Spec PyProof.Rows L2 PvR
section
variable {P : Program} {w : World} {K : PySem.W.Frag} {mg : Str → Option Value} {base : Heap} {c : Cl} {fR : Addr}
/-! ### stamp -/
abbrev sStamp : Stmt := top 8
theorem scStamp : FnScope ["move"] ["move"] (defScope sStamp) := ⟨rfl, rfl, rfl, by decide +kernel, rfl, by decide +kernel, by decide +kernel⟩
def spStamp (c : Cl) : Sp := fun vs H Q _ => ∃ v d, vs = [v] ∧ MvAt c.M H v d ∧ ∀ p H', Same H H' → H p = none → H' p = some (.tup [.int (d.stamp.count : Int), .int (d.stamp.hand : Int)]) → Q (.ref p) H'
theorem d_stamp (T : Txt K mg c fR) (D : DefAt K mg "stamp" sStamp) : Def P w K mg base CX0 1 "stamp" ["move"] (spStamp c) := by
  obtain ⟨f, fd, hm, F⟩ := D
  refine ⟨f, fd, hm, F.kp, F.binds (fun _ _ _ _ _ _ us hl => match us, hl with | [_], _ => rfl), F.ok scStamp (fun vs H Q E h => ?_) (fun cdv A outer s H vs Q E hr h => ?_)⟩
  · obtain ⟨v, d, rfl, _⟩ := h
    rfl
  · obtain ⟨v, d, rfl, ⟨a, dx, rfl, ha⟩, k⟩ := h
    refine ⟨_, pss_one (ps_ret (pe_tup (pa_cons (pe_fld (pv 0) rfl) (pa_cons (pe_fld (pv 0) rfl) pa_nil)))), ?_⟩
    refine ⟨_, rfl, a, c.M, dx, _, _, rfl, ha, T.clM, T.nCounter, mF_counter d, _, rfl, a, c.M, dx, _, _, rfl, ha, T.clM, T.nOrigin, mF_origin d, (by show 2 ≤ sizeLine; decide), fun p hp => ?_⟩
    exact k p _ (same_upd hp) hp upd_same
/-! ### Move -/
abbrev sMove : Stmt := inClass (top 7) 0
theorem scMove : FnScope ["self", "number", "counter", "origin", "node", "parent", "label"] ["self", "number", "counter", "origin", "node", "parent", "label"] (defScope sMove) := ⟨rfl, rfl, rfl, by decide +kernel, rfl, by decide +kernel, by decide +kernel⟩
def spMove (c : Cl) : Sp := fun vs H Q _ => ∃ p dx d, vs = [.ref p, .int (d.id : Int), .int (d.stamp.count : Int), .int (d.stamp.hand : Int), .int (d.thing : Int), .int (d.under : Int), .int (d.label : Int)] ∧ H p = some (.ins c.M dx []) ∧
  ∀ H', H' p = some (.ins c.M dx (mF d)) → (∀ b o, H b = some o → b ≠ p → H' b = some o) → Q .non H'
theorem mF_made (d : Sq28.Deed) : putF "label" (.int (d.label : Int)) (putF "parent" (.int (d.under : Int)) (putF "node" (.int (d.thing : Int)) (putF "origin" (.int (d.stamp.hand : Int)) (putF "counter" (.int (d.stamp.count : Int)) (putF "number" (.int (d.id : Int)) []))))) = mF d := by
  rw [put_new (f := "number") (by show ([] : List Str).contains "number" = false; decide +kernel), put_new (f := "counter") (by show (["number"] : List Str).contains "counter" = false; decide +kernel), put_new (f := "origin") (by show (["number", "counter"] : List Str).contains "origin" = false; decide +kernel), put_new (f := "node") (by show (["number", "counter", "origin"] : List Str).contains "node" = false; decide +kernel), put_new (f := "parent") (by show (["number", "counter", "origin", "node"] : List Str).contains "parent" = false; decide +kernel), put_new (f := "label") (by show (["number", "counter", "origin", "node", "parent"] : List Str).contains "label" = false; decide +kernel)]
  rfl
theorem ok_move {f : Addr} {fd : FuncData} (F : Fun K "__init__" "Move.__init__" sMove f fd) (T : Txt K mg c fR) : FnOk P w K mg base CX0 1 f fd ["self", "number", "counter", "origin", "node", "parent", "label"] (spMove c) := by
  refine F.ok scMove (fun vs H Q E h => ?_) (fun cdv A outer s H vs Q E hr h => ?_)
  · obtain ⟨p, dx, d, rfl, _⟩ := h
    rfl
  · obtain ⟨p, dx, d, rfl, hp, k⟩ := h
    refine ⟨_, pss_cons (ps_fld (pv 0) (pv 1) rfl) (pss_cons (ps_fld (pv 0) (pv 2) rfl) (pss_cons (ps_fld (pv 0) (pv 3) rfl) (pss_cons (ps_fld (pv 0) (pv 4) rfl) (pss_cons (ps_fld (pv 0) (pv 5) rfl) (pss_one (ps_fld (pv 0) (pv 6) rfl)))))), ?_⟩
    refine ⟨_, rfl, _, rfl, p, c.M, dx, _, rfl, hp, T.clM, T.nNumber, (by decide), ?_⟩
    refine ⟨_, rfl, _, rfl, p, c.M, dx, _, rfl, upd_same, T.clM, T.nCounter, (by show 1 < 1000; decide), ?_⟩
    refine ⟨_, rfl, _, rfl, p, c.M, dx, _, rfl, upd_same, T.clM, T.nOrigin, (by show 2 < 1000; decide), ?_⟩
    refine ⟨_, rfl, _, rfl, p, c.M, dx, _, rfl, upd_same, T.clM, T.nNode, (by show 3 < 1000; decide), ?_⟩
    refine ⟨_, rfl, _, rfl, p, c.M, dx, _, rfl, upd_same, T.clM, T.nParent, (by show 4 < 1000; decide), ?_⟩
    refine ⟨_, rfl, _, rfl, p, c.M, dx, _, rfl, upd_same, T.clM, T.nLabel, (by show 5 < 1000; decide), ?_⟩
    refine k _ (Eq.trans upd_same (congrArg (fun q => some (HO.ins c.M dx q)) (mF_made d))) fun b o e hb => ?_
    rw [upd_ne hb, upd_ne hb, upd_ne hb, upd_ne hb, upd_ne hb, upd_ne hb]
    exact e
/-! ### first_tree -/
abbrev sFirst : Stmt := top 9
theorem scFirst : FnScope [] [] (defScope sFirst) := ⟨rfl, rfl, rfl, by decide +kernel, rfl, by decide +kernel, by decide +kernel⟩
def spFirst : Sp := fun vs H Q _ => vs = [] ∧ ∀ p H', Same H H' → H p = none → TreeAt H' p [] → Q (.ref p) H'
theorem d_first (T : Txt K mg c fR) (D : DefAt K mg "first_tree" sFirst) : Def P w K mg base CX0 1 "first_tree" [] spFirst := by
  obtain ⟨f, fd, hm, F⟩ := D
  refine ⟨f, fd, hm, F.kp, F.binds (fun _ _ _ _ _ _ us hl => match us, hl with | [], _ => rfl), F.ok scFirst (fun vs H Q E h => ?_) (fun cdv A outer s H vs Q E hr h => ?_)⟩
  · obtain ⟨rfl, _⟩ := h
    rfl
  · obtain ⟨rfl, k⟩ := h
    refine ⟨_, pss_one (ps_ret (pe_op op_rep (pe_lst (pa_cons pe_non pa_nil)) (pe_num T.nodes))), ?_⟩
    refine ⟨(by show 1 ≤ sizeLine; decide), fun l hl => ?_⟩
    refine ⟨l, 64, _, rfl, rfl, upd_same, (by decide), (by decide), (by show 1 * 64 ≤ sizeLine; decide), fun p hp => ?_⟩
    refine k p _ ((same_upd hl).trans (same_upd hp)) ((same_upd hl).free hp) ⟨_, upd_same, ?_⟩
    rw [locs_nil]
    exact Paired.rep (F := LocAt _) (x := V.non) (y := none) (show LocAt _ V.non none from rfl) 64
/-! ### is_there -/
abbrev sThere : Stmt := top 10
theorem scThere : FnScope ["tree", "node"] ["tree", "node"] (defScope sThere) := ⟨rfl, rfl, rfl, by decide +kernel, rfl, by decide +kernel, by decide +kernel⟩
def spThere : Sp := fun vs H Q _ => ∃ a t x, vs = [.ref a, .int ((x : Nat) : Int)] ∧ TreeAt H a t ∧ Wf t ∧ Q (.bl (Sq28.there t x)) H
theorem there_lo {t : Sq28.Tree} {x : Nat} (h : x < 2) : Sq28.there t x = true := by
  have : x = 0 ∨ x = 1 := by omega
  rcases this with rfl | rfl <;> simp [Sq28.there, Sq28.ROOT, Sq28.BIN]
theorem there_mid {t : Sq28.Tree} {x : Nat} (h : ¬ x < 2) : Sq28.there t x = (Sq34.place t x).isSome := by
  have h0 : (x == Sq28.ROOT) = false := by simp [Sq28.ROOT]; omega
  have h1 : (x == Sq28.BIN) = false := by simp [Sq28.BIN]; omega
  unfold Sq28.there Sq34.place
  rw [h0, h1, Bool.false_or, Bool.false_or, Option.isSome_map]
theorem there_hi {t : Sq28.Tree} (W : Wf t) {x : Nat} (h : ¬ x < 64) : Sq28.there t x = false := by
  rw [there_mid (by omega)]
  unfold Sq34.place
  rw [W.get_hi (by omega)]
  rfl
theorem d_there (T : Txt K mg c fR) (D : DefAt K mg "is_there" sThere) : Def P w K mg base CX0 1 "is_there" ["tree", "node"] spThere := by
  obtain ⟨f, fd, hm, F⟩ := D
  refine ⟨f, fd, hm, F.kp, F.binds (fun _ _ _ _ _ _ us hl => match us, hl with | [_, _], _ => rfl), F.ok scThere (fun vs H Q E h => ?_) (fun cdv A outer s H vs Q E hr h => ?_)⟩
  · obtain ⟨a, t, x, rfl, _⟩ := h
    rfl
  · obtain ⟨a, t, x, rfl, ⟨xs, hx, px⟩, W, k⟩ := h
    refine ⟨_, pss_one (ps_ret (pe_or (pe_cmpR op_lt (pv 1) (pe_num T.first) (nomark _)) (pe_one (pe_and (pe_cmpR op_lt (pv 1) (pe_num T.nodes) (nomark _)) (pe_one (pe_cmp (pc_notN (pe_ix ix_list (pv 0) (pv 1) (fun _ _ => rfl))))))))), ?_⟩
    refine ⟨_, rfl, _, _, rfl, rfl, _, rfl, ?_⟩
    by_cases h2 : (x : Int) < 2
    · refine if_true_of (decide_eq_true h2) ?_
      rw [there_lo (by omega)] at k
      exact k
    · refine if_false_of (decide_eq_false h2) ?_
      refine ⟨_, rfl, _, _, rfl, rfl, _, rfl, ?_⟩
      by_cases h64 : (x : Int) < 64
      · refine if_true_of (decide_eq_true h64) ?_
        obtain ⟨v, hv, lv⟩ := TreeAt.get px (x := x) (by omega)
        refine ⟨_, rfl, _, rfl, a, xs, (x : Int), v, rfl, rfl, SqL.of hx, atI_nat hv, ?_⟩
        have e : (!decide (v = V.non)) = Sq28.there t x := by
          rw [there_mid (by omega)]
          cases hq : Sq34.place t x with
          | none =>
            rw [hq] at lv
            have : v = .non := lv
            rw [this]
            rfl
          | some q =>
            rw [hq] at lv
            obtain ⟨u, l⟩ := q
            obtain ⟨p, e, _⟩ := lv
            rw [e]
            rfl
        show Q (.bl (!decide (v = V.non))) H
        rw [e]
        exact k
      · refine if_false_of (decide_eq_false h64) ?_
        rw [there_hi W (by omega)] at k
        exact k
end
end Pv
end
section
set_option maxRecDepth 100000
set_option maxHeartbeats 4000000
namespace Pv
open PySem PySem.Spec PyProof.Rows L2 PvR
/-! ### what stands but lists -/
def Kp (H H' : Hp) : Prop := ∀ b o, H b = some o → (∀ ys, o ≠ .lst ys) → H' b = some o
theorem Kp.of {H H' : Hp} (s : Same H H') : Kp H H' := fun b o e _ => s b o e
theorem Kp.trans {H H1 H2 : Hp} (a : Kp H H1) (b : Kp H1 H2) : Kp H H2 := fun c o h n => b c o (a c o h n) n
theorem Kp.upd {H : Hp} {a : Addr} {ys : List V} {o : HO} (h : H a = some (.lst ys)) : Kp H (upd H a o) := fun b u e n => by
  rw [upd_ne (fun z => by rw [z, h] at e; exact n ys (Option.some.inj e).symm)]
  exact e
theorem LocAt.kp {H H' : Hp} {v : V} {l : Loc} (s : Kp H H') (h : LocAt H v l) : LocAt H' v l := by
  cases l with
  | none => exact h
  | some q =>
    obtain ⟨u, l⟩ := q
    obtain ⟨p, e, h⟩ := h
    exact ⟨p, e, s _ _ h fun ys z => by cases z⟩
theorem MvAt.kp {C : Addr} {H H' : Hp} {v : V} {d : Sq28.Deed} (s : Kp H H') (h : MvAt C H v d) : MvAt C H' v d := by
  obtain ⟨a, dx, e, h⟩ := h
  exact ⟨a, dx, e, s _ _ h fun ys z => by cases z⟩
theorem MvsAt.kp {C : Addr} {H H' : Hp} {vs : List V} {ds : List Sq28.Deed} (s : Kp H H') (h : MvsAt C H vs ds) : MvsAt C H' vs ds := Paired.mono (fun _ _ q => q.kp s) h
/-- another list is written -/
theorem same_new {H0 H : Hp} {a : Addr} {o : HO} (s : Same H0 H) (h : H0 a = none) : Same H0 (upd H a o) := fun b u e => by
  rw [upd_ne (ne_of_none e h)]
  exact s b u e
/-! ### numbers as values -/
def nl (l : List Nat) : List V := l.map fun (n : Nat) => V.int (n : Int)
theorem nl_len (l : List Nat) : (nl l).length = l.length := List.length_map ..
theorem nl_snoc (l : List Nat) (n : Nat) : nl (l ++ [n]) = nl l ++ [V.int (n : Int)] := by unfold nl; rw [List.map_append]; rfl
theorem nl_flat (l : List Nat) : (nl l).all flatV = true := by
  rw [List.all_eq_true]
  intro x hx
  obtain ⟨n, _, rfl⟩ := List.mem_map.mp hx
  rfl
theorem nl_in (l : List Nat) (n : Nat) : inV (.int (n : Int)) (nl l) = l.contains n := by
  unfold inV nl
  rw [List.any_map]
  induction l with
  | nil => rfl
  | cons a l ih =>
    rw [List.any_cons, List.contains_cons, ih]
    congr 1
    show decide ((a : Int) = (n : Int)) = (n == a)
    rw [Bool.eq_iff_iff]
    simp only [decide_eq_true_eq, beq_iff_eq]
    omega
section
variable {P : Program} {w : World} {K : PySem.W.Frag} {mg : Str → Option Value} {base : Heap} {c : Cl} {fR : Addr}
/-! ### path_of -/
abbrev sPath : Stmt := top 11
theorem scPath : FnScope ["tree", "node", "found"] ["tree", "node"] (defScope sPath) := ⟨rfl, rfl, rfl, by decide +kernel, rfl, by decide +kernel, by decide +kernel⟩
def spPath : Sp := fun vs H Q _ => ∃ a t x l, vs = [.ref a, .int ((x : Nat) : Int)] ∧ TreeAt H a t ∧ Wf t ∧ Up t x l ∧ ∀ p H', Same H H' → H p = none → H' p = some (.lst (nl l)) → Q (.ref p) H'
theorem d_path (T : Txt K mg c fR) (D : DefAt K mg "path_of" sPath) : Def P w K mg base CX0 1 "path_of" ["tree", "node"] spPath := by
  obtain ⟨f, fd, hm, F⟩ := D
  refine ⟨f, fd, hm, F.kp, F.binds (fun _ _ _ _ _ _ us hl => match us, hl with | [_, _], _ => rfl), F.ok scPath (fun vs H Q E h => ?_) (fun cdv A outer s H vs Q E hr h => ?_)⟩
  · obtain ⟨a, t, x, l, rfl, _⟩ := h
    rfl
  · obtain ⟨a, t, x, L, rfl, ⟨xs, hx, px⟩, W, u, k⟩ := h
    refine ⟨_, pss_cons (ps_set (i := 2) scPath.nd rfl (Or.inl rfl) (pe_lst (pa_cons (pv 1) pa_nil)))
      (pss_cons (ps_while PassesOwn.never (pt_cmpR op_ge (pe_ix ix_list (pv 2) (pe_un un_neg pe_int) (fun _ _ => rfl)) (pe_num T.first) (nomark _))
        (pss_one (ps_expr (pe_bm PySem.F.plainAttrs_list PySem.F.slot_list_append PySem.F.type_list_append mt_append (pv 2)
          (pa_cons (pe_ix ix_tup (pe_ix ix_list (pv 0) (pe_ix ix_list (pv 2) (pe_un un_neg pe_int) (fun _ _ => rfl)) (fun _ _ => rfl)) pe_int (fun _ _ => rfl)) pa_nil)))))
      (pss_one (ps_ret (pv 2)))), ?_⟩
    refine ⟨_, rfl, (by show 1 ≤ sizeLine; decide), fun pf hpf => ?_⟩
    refine ⟨fun m σ H' => ∃ pre y l, σ = [some (.ref a), some (.int ((x : Nat) : Int)), some (.ref pf)] ∧ Same H H' ∧ H' pf = some (.lst (nl pre ++ [V.int ((y : Nat) : Int)])) ∧ Up t y l ∧ pre ++ l = L ∧ m = l.length,
      ⟨_, [], x, L, rfl, same_upd hpf, upd_same, u, rfl, rfl⟩, ?_⟩
    rintro m σ H' ⟨pre, y, l, rfl, sm, hp, uy, e, rfl⟩
    have lst := atI_last (nl pre) (V.int (y : Int))
    refine ⟨_, rfl, _, rfl, pf, _, -1, _, rfl, rfl, SqL.of hp, lst, _, _, rfl, rfl, _, rfl, ?_⟩
    by_cases h2 : (2 : Int) ≤ (y : Int)
    · refine if_true_of (decide_eq_true h2) ?_
      cases uy with
      | base hy => omega
      | step g u' =>
        rename_i q l'
        obtain ⟨g1, g2⟩ := get_some_mem g
        have y64 : y < 64 := by rw [← g2]; exact W.hi _ g1
        obtain ⟨v, hv, lv⟩ := TreeAt.get px y64
        have epl : Sq34.place t y = some (q.under, q.label) := by
          unfold Sq34.place
          rw [g]
          rfl
        rw [epl] at lv
        obtain ⟨pt, rfl, hpt⟩ := lv
        have hlen : (pre ++ (y :: l')).length ≤ 65 := by
          rw [e]
          exact Nat.le_trans (u.len W) (Nat.succ_le_succ W.len)
        refine ⟨fun σ2 H2 => ∃ pre y l, σ2 = [some (.ref a), some (.int ((x : Nat) : Int)), some (.ref pf)] ∧ Same H H2 ∧ H2 pf = some (.lst (nl pre ++ [V.int ((y : Nat) : Int)])) ∧ Up t y l ∧ pre ++ l = L ∧ l.length = l'.length, ?_, ?_⟩
        · rintro σ2 H2 ⟨pre2, y2, l2, h1, h3, h4, h5, h6, h7⟩
          exact ⟨l2.length, by rw [h7]; exact Nat.lt_succ_self _, pre2, y2, l2, h1, h3, h4, h5, h6, rfl⟩
        · refine ⟨_, rfl, .inl ⟨rfl, _, SqL.of hp⟩, _, rfl, _, rfl, _, rfl, pf, _, -1, _, rfl, rfl, SqL.of hp, lst, a, xs, (y : Int), _, rfl, rfl, SqL.of (sm _ _ hx), atI_nat hv,
            pt, _, 0, _, rfl, rfl, SqT.of (sm _ _ hpt), at_of (j := 0) rfl rfl, pf, _, _, rfl, rfl, hp, ?_, ?_⟩
          · rw [List.length_append, List.length_singleton, nl_len]
            rw [List.length_append, List.length_cons] at hlen
            exact Nat.lt_of_le_of_lt (by omega : pre.length + 1 ≤ 1000) (by decide)
          · refine ⟨pre ++ [y], q.under, l', rfl, same_new sm hpf, ?_, u', by rw [← e]; simp, rfl⟩
            rw [nl_snoc]
            exact upd_same
    · refine if_false_of (decide_eq_false h2) ?_
      cases uy with
      | base hy =>
        refine ⟨_, rfl, k pf _ sm hpf ?_⟩
        rw [← e, nl_snoc]
        exact hp
      | step g u' =>
        have := W.get_lo (x := y) (by omega)
        rw [this] at g
        cases g
/-! ### outcome_of -/
abbrev sOutcome : Stmt := top 12
theorem scOutcome : FnScope ["tree", "move"] ["tree", "move"] (defScope sOutcome) := ⟨rfl, rfl, rfl, by decide +kernel, rfl, by decide +kernel, by decide +kernel⟩
def spOutcome (c : Cl) : Sp := fun vs H Q _ => ∃ a t v d, vs = [.ref a, v] ∧ TreeAt H a t ∧ Wf t ∧ MvAt c.M H v d ∧ ∀ H', Same H H' → Q (.int ((Sq28.outcome t d : Nat) : Int)) H'
theorem d_outcome (T : Txt K mg c fR) (D : DefAt K mg "outcome_of" sOutcome) (DT : Def P w K mg base CX0 1 "is_there" ["tree", "node"] spThere) (DP : Def P w K mg base CX0 1 "path_of" ["tree", "node"] spPath) :
    Def P w K mg base CX0 2 "outcome_of" ["tree", "move"] (spOutcome c) := by
  obtain ⟨f, fd, hm, F⟩ := D
  obtain ⟨fT, fdT, hmT, kT, bT, GT⟩ := DT
  obtain ⟨fP, fdP, hmP, kP, bP, GP⟩ := DP
  refine ⟨f, fd, hm, F.kp, F.binds (fun _ _ _ _ _ _ us hl => match us, hl with | [_, _], _ => rfl), F.ok scOutcome (fun vs H Q E h => ?_) (fun cdv A outer s H vs Q E hr h => ?_)⟩
  · obtain ⟨a, t, v, d, rfl, _⟩ := h
    rfl
  · obtain ⟨a, t, v, d, rfl, tr, W, ⟨am, dx, rfl, ha⟩, k⟩ := h
    refine ⟨_, pss_cons (ps_if (pt_not (pt_val (pe_call GT hr rfl hmT kT bT .nil pass0 (pa_cons (pv 0) (pa_cons (pe_fld (pv 1) rfl) pa_nil))))) (pss_one (ps_ret (pe_num T.noParent))) pss_nil)
      (pss_cons (ps_if (pt_cmpR op_in_seq (pe_fld (pv 1) rfl) (pe_call GP hr rfl hmP kP bP .nil pass0 (pa_cons (pv 0) (pa_cons (pe_fld (pv 1) rfl) pa_nil))) (by rfl)) (pss_one (ps_ret (pe_num T.circle))) pss_nil)
      (pss_one (ps_ret (pe_num T.done)))), ?_⟩
    refine ⟨_, rfl, _, rfl, am, c.M, dx, _, _, rfl, ha, T.clM, T.nParent, mF_parent d, a, t, d.under, rfl, tr, W, _, rfl, ?_⟩
    cases hth : Sq28.there t d.under with
    | false =>
      refine if_true_of rfl ?_
      have e : Sq28.outcome t d = 2 := if_pos hth
      have := k H (Same.refl H)
      rw [e] at this
      exact this
    | true =>
      refine if_false_of rfl ?_
      obtain ⟨l, ul⟩ := (there_iff W).mp hth
      refine ⟨_, rfl, am, c.M, dx, _, _, rfl, ha, T.clM, T.nNode, mF_node d, _, rfl, _, rfl, am, c.M, dx, _, _, rfl, ha, T.clM, T.nParent, mF_parent d, a, t, d.under, l, rfl, tr, W, ul, fun p H' sm hn hp => ?_⟩
      refine ⟨p, _, rfl, .inl (SqL.of hp), rfl, nl_flat l, _, rfl, ?_⟩
      have ea := above_up W ul
      have ed : ¬ Sq28.there t d.under = false := by rw [hth]; exact fun z => by cases z
      show if (inV (.int (d.thing : Int)) (nl l)) = true then _ else _
      rw [nl_in]
      cases hc : l.contains d.thing with
      | true =>
        refine if_true_of rfl ?_
        have e : Sq28.outcome t d = 3 := by
          unfold Sq28.outcome
          rw [if_neg ed, ea, if_pos hc]
        have := k H' sm
        rw [e] at this
        exact this
      | false =>
        refine if_false_of rfl ?_
        have e : Sq28.outcome t d = 1 := by
          unfold Sq28.outcome
          rw [if_neg ed, ea, if_neg (by rw [hc]; exact fun z => by cases z)]
        have := k H' sm
        rw [e] at this
        exact this
/-! ### in_order -/
abbrev sOrder : Stmt := top 13
theorem scOrder : FnScope ["moves"] ["moves"] (defScope sOrder) := ⟨rfl, rfl, rfl, by decide +kernel, rfl, by decide +kernel, by decide +kernel⟩
def spOrder (c : Cl) : Sp := fun vs H Q _ => ∃ a ds, vs = [.ref a] ∧ MlAt c.M H a ds ∧ Dst ds ∧ ∀ p H', Same H H' → H p = none → MlAt c.M H' p (Sq34.sorted ds) → Q (.ref p) H'
theorem lexB_stamp (d e : Sq28.Deed) : SrtO.lexB ((d.stamp.count : Int), (d.stamp.hand : Int)) ((e.stamp.count : Int), (e.stamp.hand : Int)) = d.stamp.before e.stamp := by
  rw [Bool.eq_iff_iff, SrtO.lexB_iff, before_iff]
  simp only
  omega
theorem d_order (T : Txt K mg c fR) (D : DefAt K mg "in_order" sOrder) (DS : Def P w K mg base CX0 1 "stamp" ["move"] (spStamp c)) : Def P w K mg base CX0 4 "in_order" ["moves"] (spOrder c) := by
  obtain ⟨f, fd, hm, F⟩ := D
  obtain ⟨fS, fdS, hmS, kS, bS, GS⟩ := DS
  refine ⟨f, fd, hm, F.kp, F.binds (fun _ _ _ _ _ _ us hl => match us, hl with | [_], _ => rfl), F.ok scOrder (fun vs H Q E h => ?_) (fun cdv A outer s H vs Q E hr h => ?_)⟩
  · obtain ⟨a, ds, rfl, _⟩ := h
    rfl
  · obtain ⟨a, ds, rfl, ⟨xs, ha, hx⟩, dd, k⟩ := h
    refine ⟨_, pss_one (ps_ret (pe_callBK (cr_sortedF GS hr bS) (by rfl) T.sorted boot_sorted (pa_cons (pv 0) pa_nil) (pk_cons (pe_glob (v := .ref fS) rfl hmS rfl) pk_nil))), ?_⟩
    refine ⟨_, rfl, a, xs, fun v => (((Pv.kd c.M H v).stamp.count : Int), ((Pv.kd c.M H v).stamp.hand : Int)), rfl, rfl, SqL.of ha, fun x hxm => ?_, fun x hxm H' Q' sm hq => ?_, fun out p H' hp ho sm hn hpp => ?_⟩
    · obtain ⟨b, dx, e, _⟩ := hx.mem hxm
      exact ⟨b, e⟩
    · exact ⟨x, _, rfl, (hx.mem hxm).same sm, fun p H'' s2 h1 h2 => hq p H'' s2 h1 h2⟩
    · refine k p H' sm hn ⟨out, hpp, ?_⟩
      have e1 := hx.kd
      have e2 : out.map (Pv.kd c.M H) = Sq34.sorted ds := by
        rw [e1]
        refine sort_is (Pv.kd c.M H) hp (ho.imp fun {x y} q => ?_) (by rw [← e1]; exact dd)
        rw [lexB_stamp] at q
        exact q
      rw [← e2]
      exact Paired.of_map fun x hxo => (hx.mem (hp.mem_iff.mp hxo)).same sm
end
end Pv
end
section
set_option maxRecDepth 100000
set_option maxHeartbeats 4000000
namespace Pv
open PySem PySem.Spec PyProof.Rows L2 PvR
theorem ixN_nat {n j : Nat} (h : j < n) : ixN n (j : Int) = some j := by
  unfold ixN
  rw [if_pos (by omega), if_pos (by omega)]
  simp
theorem take_all {α : Type} {l : List α} {n : Nat} (h : n = l.length) : l.take n = l := by rw [h, List.take_length]
section
variable {P : Program} {w : World} {K : PySem.W.Frag} {mg : Str → Option Value} {base : Heap} {c : Cl} {fR : Addr}
/-! ### result_of -/
abbrev sResult : Stmt := top 14
theorem scResult : FnScope ["moves", "tree", "outcomes", "move", "outcome"] ["moves"] (defScope sResult) := ⟨rfl, rfl, rfl, by decide +kernel, rfl, by decide +kernel, by decide +kernel⟩
def spResult (c : Cl) : Sp := fun vs H Q _ => ∃ a ds, vs = [.ref a] ∧ MlAt c.M H a ds ∧ OkL ds ∧ ∀ p pt po H', Same H H' → H p = none → H pt = none → H' p = some (.tup [.ref pt, .ref po]) → TreeAt H' pt (Sq28.treeOf (Sq34.sorted ds)) → H' po = some (.lst (nl (outs (Sq34.sorted ds)))) → Q (.ref p) H'
theorem d_result (T : Txt K mg c fR) (D : DefAt K mg "result_of" sResult) (DF : Def P w K mg base CX0 1 "first_tree" [] spFirst) (DO : Def P w K mg base CX0 4 "in_order" ["moves"] (spOrder c))
    (DC : Def P w K mg base CX0 2 "outcome_of" ["tree", "move"] (spOutcome c)) : Def P w K mg base CX0 5 "result_of" ["moves"] (spResult c) := by
  obtain ⟨f, fd, hm, F⟩ := D
  obtain ⟨fF, fdF, hmF, kF, bF, GF⟩ := DF
  obtain ⟨fO, fdO, hmO, kO, bO, GO⟩ := DO
  obtain ⟨fC, fdC, hmC, kC, bC, GC⟩ := DC
  refine ⟨f, fd, hm, F.kp, F.binds (fun _ _ _ _ _ _ us hl => match us, hl with | [_], _ => rfl), F.ok scResult (fun vs H Q E h => ?_) (fun cdv A outer s H vs Q E hr h => ?_)⟩
  · obtain ⟨a, ds, rfl, _⟩ := h
    rfl
  · obtain ⟨a, ds, rfl, ml, ok, k⟩ := h
    have hr1 : Room 1 _ := hr.mono (by decide)
    have hr2 : Room 2 _ := hr.mono (by decide)
    refine ⟨_, pss_cons (ps_set (i := 1) scResult.nd rfl (Or.inl rfl) (pe_call0 GF hr1 rfl hmF kF bF .nil pass0))
      (pss_cons (ps_set (i := 2) scResult.nd rfl (Or.inl rfl) (pe_lst pa_nil))
      (pss_cons (ps_for PassesOwn.never rfl (pi_list (pe_call GO hr rfl hmO kO bO .nil pass0 (pa_cons (pv 0) pa_nil))) (pg_name (i := 3) scResult.nd rfl (Or.inl rfl))
        (pss_cons (ps_set (i := 4) scResult.nd rfl (Or.inl rfl) (pe_call GC hr2 rfl hmC kC bC .nil pass0 (pa_cons (pv 1) (pa_cons (pv 3) pa_nil))))
        (pss_cons (ps_expr (pe_bm PySem.F.plainAttrs_list PySem.F.slot_list_append PySem.F.type_list_append mt_append (pv 2) (pa_cons (pv 4) pa_nil)))
        (pss_one (ps_if (pt_cmpR op_eq (pv 4) (pe_num T.done) (nomark _))
          (pss_one (ps_asg (pe_tup (pa_cons (pe_fld (pv 3) rfl) (pa_cons (pe_fld (pv 3) rfl) pa_nil))) (pg_sub (pv 1) (pe_fld (pv 3) rfl) set_list))) pss_nil)))))
      (pss_one (ps_ret (pe_tup (pa_cons (pv 1) (pa_cons (pv 2) pa_nil))))))), ?_⟩
    refine ⟨rfl, fun pt H1 s1 n1 tr1 => ?_⟩
    refine ⟨Nat.zero_le _, fun po n2 => ?_⟩
    have s2 : Same H1 (upd H1 po (.lst [])) := same_upd n2
    have s12 : Same H (upd H1 po (.lst [])) := s1.trans s2
    refine ⟨_, rfl, a, ds, rfl, ml.same s12, ok.dst, fun ps H3 s3 n3 hS => ?_⟩
    obtain ⟨vsS, hps, mvs⟩ := hS
    have hS := ok.sorted
    obtain ⟨xs1, hpt1, px1⟩ := tr1
    have d1 : pt ≠ po := ne_of_none hpt1 n2
    have d2 : pt ≠ ps := ne_of_none (s2 _ _ hpt1) n3
    have d3 : po ≠ ps := ne_of_none upd_same n3
    have n02 : H po = none := s1.free n2
    have n03 : H ps = none := s12.free n3
    have lenS : vsS.length = (Sq34.sorted ds).length := mvs.length
    refine ⟨ps, rfl, ⟨_, SqL.of hps⟩, for_list (K := K) (a := ps) (xs := vsS)
      (fun i σ H' => ∃ v3 v4, σ = [some (.ref a), some (.ref pt), some (.ref po), v3, v4] ∧ Same H H' ∧ H' ps = some (.lst vsS) ∧ MvsAt c.M H' vsS (Sq34.sorted ds) ∧ TreeAt H' pt (Sq28.treeOf ((Sq34.sorted ds).take i)) ∧ H' po = some (.lst (nl (outs ((Sq34.sorted ds).take i)))))
      ⟨none, none, rfl, s12.trans s3, hps, mvs, TreeAt.same (s2.trans s3) ⟨xs1, hpt1, px1⟩, s3 _ _ upd_same⟩ (fun i σ H' _ ⟨_, _, _, _, h, _⟩ => SqL.of h) ?_ ?_⟩
    · rintro i x σ H' hi ⟨v3, v4, rfl, sm, hps', mv', tr', hpo'⟩
      obtain ⟨d, hd, md⟩ := Paired.at_ mv' hi
      have hdm : d ∈ Sq34.sorted ds := List.mem_of_getElem? hd
      have Wi : Wf (Sq28.treeOf ((Sq34.sorted ds).take i)) := Wf.treeOf fun e he => hS.rng e (List.mem_of_mem_take he)
      have etk := take_more hd
      refine ⟨_, rfl, _, rfl, pt, _, x, d, rfl, tr', Wi, md, fun H4 s4 => ?_⟩
      have hpo4 := s4 _ _ hpo'
      obtain ⟨xs4, hpt4, px4⟩ := tr'.same s4
      obtain ⟨am, dx, rfl, ham⟩ := md.same s4
      have dma : am ≠ po := ne_of ham hpo4 (by intro z; cases z)
      refine ⟨_, rfl, .inl ⟨rfl, _, SqL.of hpo4⟩, _, rfl, po, _, _, rfl, rfl, hpo4, ?_, ?_⟩
      · rw [nl_len, outs_len, List.length_take]
        have := hS.len
        exact Nat.lt_of_le_of_lt (by omega : _ ≤ 1000) (by decide)
      have kp5 : Kp H4 (upd H4 po (.lst (nl (outs ((Sq34.sorted ds).take i)) ++ [V.int ((Sq28.outcome (Sq28.treeOf ((Sq34.sorted ds).take i)) d : Nat) : Int)]))) := Kp.upd hpo4
      have ham5 := kp5 _ _ ham (fun ys z => by cases z)
      have sm5 := same_new (sm.trans s4) n02 (o := .lst (nl (outs ((Sq34.sorted ds).take i)) ++ [V.int ((Sq28.outcome (Sq28.treeOf ((Sq34.sorted ds).take i)) d : Nat) : Int)]))
      have hpo5 : (upd H4 po (.lst (nl (outs ((Sq34.sorted ds).take i)) ++ [V.int ((Sq28.outcome (Sq28.treeOf ((Sq34.sorted ds).take i)) d : Nat) : Int)]))) po = some (.lst (nl (outs ((Sq34.sorted ds).take (i + 1))))) := by
        rw [upd_same, etk, outs_snoc, nl_snoc]
      have hps5 := (upd_ne (o := .lst (nl (outs ((Sq34.sorted ds).take i)) ++ [V.int ((Sq28.outcome (Sq28.treeOf ((Sq34.sorted ds).take i)) d : Nat) : Int)])) (Ne.symm d3)).trans (s4 _ _ hps')
      have hpt5 := (upd_ne (o := .lst (nl (outs ((Sq34.sorted ds).take i)) ++ [V.int ((Sq28.outcome (Sq28.treeOf ((Sq34.sorted ds).take i)) d : Nat) : Int)])) d1).trans hpt4
      have px5 := Paired.mono (fun _ _ q => LocAt.kp kp5 q) px4
      have mv5 := MvsAt.kp kp5 (mv'.same s4)
      generalize (upd H4 po (.lst (nl (outs ((Sq34.sorted ds).take i)) ++ [V.int ((Sq28.outcome (Sq28.treeOf ((Sq34.sorted ds).take i)) d : Nat) : Int)]))) = H5 at *
      refine ⟨_, rfl, rfl, _, rfl, ?_⟩
      by_cases ho : Sq28.outcome (Sq28.treeOf ((Sq34.sorted ds).take i)) d = 1
      · refine if_true_of (decide_eq_true (by rw [ho]; rfl)) ?_
        have h64 := (hS.rng d hdm).2
        refine ⟨_, rfl, am, c.M, dx, _, _, rfl, ham5, T.clM, T.nParent, mF_parent d, _, rfl, am, c.M, dx, _, _, rfl, ham5, T.clM, T.nLabel, mF_label d, (by show 2 ≤ sizeLine; decide), fun pp npp => ?_⟩
        have s6 : Same H5 (upd H5 pp (.tup [.int (d.under : Int), .int (d.label : Int)])) := same_upd npp
        have hpt6 := s6 _ _ hpt5
        refine ⟨_, rfl, _, rfl, am, c.M, dx, _, _, rfl, s6 _ _ ham5, T.clM, T.nNode, mF_node d, pt, xs4, (d.thing : Int), d.thing, rfl, rfl, hpt6, ixN_nat (by rw [TreeAt.len px4]; exact h64), ?_⟩
        have kp7 : Kp (upd H5 pp (.tup [.int (d.under : Int), .int (d.label : Int)])) (upd (upd H5 pp (.tup [.int (d.under : Int), .int (d.label : Int)])) pt (.lst (xs4.set d.thing (.ref pp)))) := Kp.upd hpt6
        have hpp7 := kp7 pp _ upd_same (fun ys z => by cases z)
        have npt : H pt = none := n1
        refine ⟨_, _, rfl, same_new (sm5.trans s6) npt, ?_, ?_, ?_, ?_⟩
        · rw [upd_ne (Ne.symm d2)]
          exact s6 _ _ hps5
        · exact MvsAt.kp kp7 (mv5.same s6)
        · refine ⟨_, upd_same, ?_⟩
          rw [etk, treeOf_snoc, locs_done h64 ho]
          refine Paired.set_ ⟨pp, rfl, hpp7⟩ _ (Paired.mono (fun _ _ q => LocAt.kp kp7 (LocAt.same s6 q)) px5)
        · rw [upd_ne (Ne.symm d1)]
          exact s6 _ _ hpo5
      · refine if_false_of (decide_eq_false (fun z => ho (by injection z with z; omega))) ?_
        refine ⟨_, _, rfl, sm5, hps5, mv5, ?_, hpo5⟩
        rw [etk, treeOf_snoc, done_same ho]
        exact ⟨xs4, hpt5, px5⟩
    · rintro σ H' ⟨v3, v4, rfl, sm, hps', mv', tr', hpo'⟩
      rw [take_all lenS] at tr' hpo'
      refine ⟨_, rfl, _, rfl, (by show 2 ≤ sizeLine; decide), fun p np => ?_⟩
      exact k p pt po _ (sm.trans (same_upd np)) (sm.free np) n1 upd_same (tr'.same (same_upd np)) (same_upd np _ _ hpo')
/-! ### tree_of -/
abbrev sTree : Stmt := top 15
theorem scTree : FnScope ["moves"] ["moves"] (defScope sTree) := ⟨rfl, rfl, rfl, by decide +kernel, rfl, by decide +kernel, by decide +kernel⟩
def spTree (c : Cl) : Sp := fun vs H Q _ => ∃ a ds, vs = [.ref a] ∧ MlAt c.M H a ds ∧ OkL ds ∧ ∀ pt H', Same H H' → H pt = none → TreeAt H' pt (Sq28.treeOf (Sq34.sorted ds)) → Q (.ref pt) H'
theorem d_tree (D : DefAt K mg "tree_of" sTree) (DR : Def P w K mg base CX0 5 "result_of" ["moves"] (spResult c)) : Def P w K mg base CX0 6 "tree_of" ["moves"] (spTree c) := by
  obtain ⟨f, fd, hm, F⟩ := D
  obtain ⟨fR, fdR, hmR, kR, bR, GR⟩ := DR
  refine ⟨f, fd, hm, F.kp, F.binds (fun _ _ _ _ _ _ us hl => match us, hl with | [_], _ => rfl), F.ok scTree (fun vs H Q E h => ?_) (fun cdv A outer s H vs Q E hr h => ?_)⟩
  · obtain ⟨a, ds, rfl, _⟩ := h
    rfl
  · obtain ⟨a, ds, rfl, ml, ok, k⟩ := h
    refine ⟨_, pss_one (ps_ret (pe_ix ix_tup (pe_call GR hr rfl hmR kR bR .nil pass0 (pa_cons (pv 0) pa_nil)) pe_int (fun _ _ => rfl))), ?_⟩
    refine ⟨_, rfl, a, ds, rfl, ml, ok, fun p pt po H' sm np npt hp tr _ => ?_⟩
    exact ⟨p, _, 0, _, rfl, rfl, SqT.of hp, at_of (j := 0) rfl rfl, k pt H' sm npt tr⟩
/-! ### done_of -/
abbrev sDone : Stmt := top 16
abbrev nDone : List Str := ["moves", "node", "outcomes", "move", "outcome"]
theorem scDone : FnScope nDone ["moves", "node"] (defScope sDone) := ⟨rfl, rfl, rfl, by decide +kernel, rfl, by decide +kernel, by decide +kernel⟩
def spDone (c : Cl) : Sp := fun vs H Q _ => ∃ a x ds, vs = [.ref a, .int ((x : Nat) : Int)] ∧ MlAt c.M H a ds ∧ OkL ds ∧ ∀ p H', Same H H' → H p = none → MlAt c.M H' p (doneBy (Sq34.sorted ds) x) → Q (.ref p) H'
theorem d_done (T : Txt K mg c fR) (D : DefAt K mg "done_of" sDone) (DR : Def P w K mg base CX0 5 "result_of" ["moves"] (spResult c)) (DO : Def P w K mg base CX0 4 "in_order" ["moves"] (spOrder c)) :
    Def P w K mg base CX0 6 "done_of" ["moves", "node"] (spDone c) := by
  obtain ⟨f, fd, hm, F⟩ := D
  obtain ⟨fR, fdR, hmR, kR, bR, GR⟩ := DR
  obtain ⟨fO, fdO, hmO, kO, bO, GO⟩ := DO
  refine ⟨f, fd, hm, F.kp, F.binds (fun _ _ _ _ _ _ us hl => match us, hl with | [_, _], _ => rfl), F.ok scDone (fun vs H Q E h => ?_) (fun cdv A outer s H vs Q E hr h => ?_)⟩
  · obtain ⟨a, x, ds, rfl, _⟩ := h
    rfl
  · obtain ⟨a, x, ds, rfl, ml, ok, k⟩ := h
    have hr4 : Room 4 _ := hr.mono (by decide)
    refine ⟨_, pss_cons (ps_set (i := 2) scDone.nd rfl (Or.inl rfl) (pe_ix ix_tup (pe_call GR hr rfl hmR kR bR .nil pass0 (pa_cons (pv 0) pa_nil)) pe_int (fun _ _ => rfl)))
      (pss_one (ps_ret (pe_lc (own := [("move", 3), ("outcome", 4)]) (g := gTup K 2 (gCons (gName 3) (gCons (gName 4) gNil))) (tt := tAnd (tTest (tOp rEq (tFld K (tVar 3) "node") (tVar 1))) (tTest (tOp rEq (tVar 4) (tC (.int 1))))) (te := tVar 3) rfl scDone.nd (pi_zip (by rfl) T.zip (pa_cons (pe_call GO hr4 rfl hmO kO bO .nil pass0 (pa_cons (pv 0) pa_nil)) (pa_cons (pv 2) pa_nil)))
        (blkOk_by (N := nDone) (sc := defScope sDone) (by decide +kernel)) (fun _ _ _ _ _ => by exact (pg_tup rfl (pgs_cons (pg_name (i := 3) scDone.nd rfl (Or.inl rfl)) (pgs_cons (pg_name (i := 4) scDone.nd rfl (Or.inl rfl)) pgs_nil))))
        (fun _ _ _ _ _ => by exact (pts_one (PW.pt (pw_and (pt_cmpR op_eq (pe_fld (pv 3) rfl) (pv 1) (nomark _)) (pw_and1 (pt_cmpR op_eq (pv 4) (pe_num T.done) (nomark _))))))) (fun _ _ _ _ _ => by exact (pv 3))))), ?_⟩
    refine ⟨_, rfl, a, ds, rfl, ml, ok, fun p pt po H1 s1 np npt hp tr hpo => ?_⟩
    refine ⟨p, _, 1, _, rfl, rfl, SqT.of hp, at_of (j := 1) rfl rfl, ?_⟩
    refine ⟨_, rfl, a, ds, rfl, ml.same s1, ok.dst, fun ps H2 s2 n2 ⟨vsS, hps, mvs⟩ => ?_⟩
    have hpo2 := s2 _ _ hpo
    have lenS : vsS.length = (Sq34.sorted ds).length := mvs.length
    have lenO : (nl (outs (Sq34.sorted ds))).length = (Sq34.sorted ds).length := by rw [nl_len, outs_len]
    have lenC : (Sq28.outcomes [] (Sq34.sorted ds)).length = (Sq34.sorted ds).length := outcomes_len _ _
    refine ⟨_, rfl, ps, po, vsS, nl (outs (Sq34.sorted ds)), rfl, SqL.of hps, SqL.of hpo2, fun D hD => ?_⟩
    refine lc_it (walk_zip (n := (Sq34.sorted ds).length) (by rw [lenS, lenO, Nat.min_self]))
      (fun i H' => ∃ acc, H' D = some (.lst acc) ∧ MvsAt c.M H' acc ((((Sq28.outcomes [] (Sq34.sorted ds)).take i).filter fun y => y.1.thing == x && y.2 == 1).map fun y => y.1) ∧ Same H2 H')
      ⟨[], upd_same, .nil, same_upd hD⟩ (fun i H' _ ⟨_, _, _, sm⟩ => ⟨SqL.of (sm _ _ hps), SqL.of (sm _ _ hpo2)⟩) ?_ ?_
    · rintro i v H3 H4 hi ⟨acc, hacc, macc, s3⟩ ⟨Tp, y1, y2, rfl, nT, rfl, e1, e2⟩
      obtain ⟨d, hd, md⟩ := Paired.at_ mvs e1
      obtain ⟨am, dx, rfl, ham⟩ := (md.same s3).same (same_upd nT (o := .tup [y1, y2]))
      have s4 : Same H3 (upd H3 Tp (.tup [.ref am, y2])) := same_upd nT
      obtain ⟨q, hq⟩ : ∃ q, (Sq28.outcomes [] (Sq34.sorted ds))[i]? = some q := ⟨_, List.getElem?_eq_getElem (by omega)⟩
      have eq1 : q.1 = d := by
        have z : ((Sq28.outcomes [] (Sq34.sorted ds)).map (·.1))[i]? = some q.1 := by rw [List.getElem?_map, hq]; rfl
        rw [outcomes_fst, hd] at z
        exact (Option.some.inj z).symm
      have eq2 : y2 = .int (q.2 : Int) := by
        have z : (nl (outs (Sq34.sorted ds)))[i]? = some (.int (q.2 : Int)) := by
          unfold nl outs
          rw [List.getElem?_map, List.getElem?_map, hq]
          rfl
        exact Option.some.inj (e2.symm.trans z)
      have efil := take_succ_filter (fun y : Sq28.Deed × Nat => y.1.thing == x && y.2 == 1) (Sq28.outcomes [] (Sq34.sorted ds)) i q hq
      have hacc4 := s4 _ _ hacc
      have hlen : acc.length ≤ 80 := by
        rw [macc.length, List.length_map]
        refine Nat.le_trans (List.length_filter_le _ _) (Nat.le_trans (List.length_take_le _ _) ?_)
        have := ok.sorted.len
        omega
      subst eq2
      refine ⟨Tp, _, rfl, SqT.of upd_same, rfl, _, _, rfl, _, _, rfl, rfl, rfl, ?_⟩
      refine ⟨_, rfl, am, c.M, dx, _, _, rfl, ham, T.clM, T.nNode, mF_node d, _, rfl, rfl, _, rfl, ?_⟩
      have keep : ((q.1.thing == x && q.2 == 1) = true) → MvsAt c.M (upd (upd H3 Tp (.tup [.ref am, .int (q.2 : Int)])) D (.lst (acc ++ [.ref am]))) (acc ++ [.ref am]) ((((Sq28.outcomes [] (Sq34.sorted ds)).take (i + 1)).filter fun y => y.1.thing == x && y.2 == 1).map fun y => y.1) := fun hk => by
        rw [efil, if_pos hk, List.map_append]
        refine Paired.app (MvsAt.kp (Kp.upd hacc4) (macc.same s4)) (.cons ?_ .nil)
        show MvAt c.M _ _ q.1
        rw [eq1]
        exact MvAt.kp (Kp.upd hacc4) ⟨am, dx, rfl, ham⟩
      have drop : ((q.1.thing == x && q.2 == 1) = false) → MvsAt c.M (upd H3 Tp (.tup [.ref am, .int (q.2 : Int)])) acc ((((Sq28.outcomes [] (Sq34.sorted ds)).take (i + 1)).filter fun y => y.1.thing == x && y.2 == 1).map fun y => y.1) := fun hk => by
        rw [efil, if_neg (by rw [hk]; exact Bool.false_ne_true), List.append_nil]
        exact macc.same s4
      by_cases h1 : d.thing = x
      · refine if_true_of (decide_eq_true (by rw [h1])) ?_
        refine ⟨_, rfl, rfl, _, rfl, ?_⟩
        by_cases h2 : q.2 = 1
        · refine if_true_of (decide_eq_true (by rw [h2]; rfl)) ?_
          refine ⟨_, rfl, acc, hacc4, Nat.lt_of_le_of_lt hlen (by decide), _, upd_same, keep ?_, same_new (s3.trans s4) hD⟩
          simp only [eq1, h1, h2, beq_self_eq_true, Bool.and_self]
        · refine if_false_of (decide_eq_false (fun z => h2 (by injection z with z; omega))) ?_
          refine ⟨acc, hacc4, drop ?_, s3.trans s4⟩
          simp [h2]
      · refine if_false_of (decide_eq_false (fun z => h1 (by injection z with z; omega))) ?_
        refine if_false_of rfl ?_
        refine ⟨acc, hacc4, drop ?_, s3.trans s4⟩
        simp [eq1, h1]
    · rintro H' ⟨acc, hacc, macc, s3⟩
      rw [take_all lenC.symm] at macc
      exact k D H' ((s1.trans s2).trans s3) ((s1.trans s2).free hD) ⟨acc, hacc, macc⟩
end
end Pv
end
section
set_option maxRecDepth 100000
set_option maxHeartbeats 4000000
namespace Pv
open PySem PySem.Spec PyProof.Rows L2 PvR
/-! ### locations as data -/
def locD : Loc → PyData
  | none => .none
  | some (u, l) => .tuple [.int (u : Int), .int (l : Int)]
theorem LocAt.dp {K : PySem.W.Frag} {H : Hp} {v : V} {l : Loc} (h : LocAt H v l) : Dp K H v (locD l) := by
  cases l with
  | none =>
    have : v = .non := h
    subst this
    exact .non
  | some q =>
    obtain ⟨u, l⟩ := q
    obtain ⟨p, rfl, h⟩ := h
    exact .tup (SqT.of h) (.cons (.int _) (.cons (.int _) .nil))
theorem locD_shaped (l : Loc) : SeqAt.shaped (locD l) = true := by
  cases l with
  | none => rfl
  | some q => rfl
theorem locD_eqv (a b : Loc) : PyData.eqv (locD a) (locD b) = (a == b) := by
  cases a with
  | none =>
    cases b with
    | none => rfl
    | some q => rfl
  | some p =>
    cases b with
    | none => rfl
    | some q =>
      obtain ⟨u, l⟩ := p
      obtain ⟨u', l'⟩ := q
      rw [Bool.eq_iff_iff]
      simp only [locD, PyData.eqv, PyData.eqvAll, Bool.and_eq_true, beq_iff_eq, Option.some.injEq, Prod.mk.injEq, Int.ofNat_inj, and_true]
section
variable {P : Program} {w : World} {K : PySem.W.Frag} {mg : Str → Option Value} {base : Heap} {c : Cl} {fR : Addr}
/-! ### unlike -/
abbrev sUnlike : Stmt := top 19
abbrev nUnlike : List Str := ["one", "other", "node"]
theorem scUnlike : FnScope nUnlike ["one", "other"] (defScope sUnlike) := ⟨rfl, rfl, rfl, by decide +kernel, rfl, by decide +kernel, by decide +kernel⟩
def spUnlike : Sp := fun vs H Q _ => ∃ a b t u, vs = [.ref a, .ref b] ∧ TreeAt H a t ∧ TreeAt H b u ∧ ∀ p H', Same H H' → H p = none → H' p = some (.lst (nl (Sq34.otherwise t u))) → Q (.ref p) H'
theorem range_filter (p : Nat → Bool) (i : Nat) : (List.range (i + 1)).filter p = (List.range i).filter p ++ (if p i = true then [i] else []) := by
  rw [List.range_succ, List.filter_append]
  congr 1
  cases h : p i <;> simp [h]
theorem d_unlike (T : Txt K mg c fR) (D : DefAt K mg "unlike" sUnlike) : Def P w K mg base CX0 1 "unlike" ["one", "other"] spUnlike := by
  obtain ⟨f, fd, hm, F⟩ := D
  refine ⟨f, fd, hm, F.kp, F.binds (fun _ _ _ _ _ _ us hl => match us, hl with | [_, _], _ => rfl), F.ok scUnlike (fun vs H Q E h => ?_) (fun cdv A outer s H vs Q E hr h => ?_)⟩
  · obtain ⟨a, b, t, u, rfl, _⟩ := h
    rfl
  · obtain ⟨a, b, t, u, rfl, ⟨xs, hx, px⟩, ⟨ys, hy, py⟩, k⟩ := h
    refine ⟨_, pss_one (ps_ret (pe_lc (own := [("node", 2)]) (g := gName 2) (tt := tTest (tOp (rNeD K) (tOp (rIxL K) (tVar 0) (tVar 2)) (tOp (rIxL K) (tVar 1) (tVar 2)))) (te := tVar 2) rfl scUnlike.nd (pi_range1 rfl T.range (pa_cons (pe_num T.nodes) pa_nil))
        (blkOk_by (N := nUnlike) (sc := defScope sUnlike) (by decide +kernel)) (fun _ _ _ _ _ => by exact (pg_name (i := 2) scUnlike.nd rfl (Or.inl rfl)))
        (fun _ _ _ _ _ => by exact (pts_one (pt_cmpR (op_neD hr.units) (pe_ix ix_list (pv 0) (pv 2) (fun _ _ => rfl)) (pe_ix ix_list (pv 1) (pv 2) (fun _ _ => rfl)) (nomark _)))) (fun _ _ _ _ _ => by exact (pv 2)))), ?_⟩
    refine ⟨64, rfl, by decide, by decide, fun D hD => ?_⟩
    refine lc_range (lo := 0) (n := 64) (fun i H' => H' D = some (.lst (nl ((List.range i).filter fun x => Sq34.place t x != Sq34.place u x))) ∧ Same H H') ⟨upd_same, same_upd hD⟩ ?_ ?_
    · rintro i H' hi ⟨hD', sm⟩
      obtain ⟨v, hv, lv⟩ := TreeAt.get px hi
      obtain ⟨v', hv', lv'⟩ := TreeAt.get py hi
      refine ⟨rfl, ?_⟩
      have ez : (0 : Int) + (i : Int) = (i : Int) := by omega
      refine ⟨_, rfl, _, rfl, a, xs, (0 : Int) + (i : Int), v, rfl, rfl, SqL.of (sm _ _ hx), at_of ez hv, _, rfl, _, rfl, b, ys, (0 : Int) + (i : Int), v', rfl, rfl, SqL.of (sm _ _ hy), at_of ez hv', locD (Sq34.place t i), locD (Sq34.place u i), (lv.same sm).dp, (lv'.same sm).dp, locD_shaped _, locD_shaped _, _, rfl, ?_⟩
      rw [locD_eqv]
      show if (Sq34.place t i != Sq34.place u i) = true then _ else _
      have ef := range_filter (fun x => Sq34.place t x != Sq34.place u x) i
      cases hc : (Sq34.place t i != Sq34.place u i) with
      | true =>
        rw [hc] at ef
        refine if_true_of rfl ⟨_, rfl, _, hD', ?_, ?_, same_new sm hD⟩
        · rw [nl_len]
          refine Nat.lt_of_le_of_lt (Nat.le_trans (List.length_filter_le _ _) ?_ : _ ≤ 1000) (by decide)
          rw [List.length_range]
          omega
        · rw [upd_same, ef, if_pos rfl, nl_snoc, ez]
      | false =>
        rw [hc] at ef
        refine if_false_of rfl ⟨?_, sm⟩
        rw [ef, if_neg (by decide), List.append_nil]
        exact hD'
    · rintro H' ⟨hD', sm⟩
      exact k D H' sm hD hD'
/-! ### children_of -/
abbrev sKids : Stmt := top 17
abbrev nKids : List Str := ["tree", "node", "child", "location"]
theorem scKids : FnScope nKids ["tree", "node"] (defScope sKids) := ⟨rfl, rfl, rfl, by decide +kernel, rfl, by decide +kernel, by decide +kernel⟩
def kidsOf (t : Sq28.Tree) (x : Nat) : List Nat := (List.range 64).filter fun c => isKid x (Sq34.place t c)
def spKids : Sp := fun vs H Q _ => ∃ a t x, vs = [.ref a, .int ((x : Nat) : Int)] ∧ TreeAt H a t ∧ ∀ p H', Same H H' → H p = none → H' p = some (.lst (nl (kidsOf t x))) → Q (.ref p) H'
theorem d_kids (T : Txt K mg c fR) (D : DefAt K mg "children_of" sKids) : Def P w K mg base CX0 1 "children_of" ["tree", "node"] spKids := by
  obtain ⟨f, fd, hm, F⟩ := D
  refine ⟨f, fd, hm, F.kp, F.binds (fun _ _ _ _ _ _ us hl => match us, hl with | [_, _], _ => rfl), F.ok scKids (fun vs H Q E h => ?_) (fun cdv A outer s H vs Q E hr h => ?_)⟩
  · obtain ⟨a, t, x, rfl, _⟩ := h
    rfl
  · obtain ⟨a, t, x, rfl, ⟨xs, hx, px⟩, k⟩ := h
    refine ⟨_, pss_one (ps_ret (pe_lc (own := [("child", 2), ("location", 3)]) (g := gTup K 2 (gCons (gName 2) (gCons (gName 3) gNil))) (tt := tAnd (tB (tNotN (tVar 3))) (tTest (tOp rEq (tOp (rIxT K) (tVar 3) (tC (.int 0))) (tVar 1)))) (te := tVar 2) rfl scKids.nd (pi_enum (by rfl) T.enumerate (pa_cons (pv 0) pa_nil))
        (blkOk_by (N := nKids) (sc := defScope sKids) (by decide +kernel)) (fun _ _ _ _ _ => by exact (pg_tup rfl (pgs_cons (pg_name (i := 2) scKids.nd rfl (Or.inl rfl)) (pgs_cons (pg_name (i := 3) scKids.nd rfl (Or.inl rfl)) pgs_nil))))
        (fun _ _ _ _ _ => by exact (pts_one (PW.pt (pw_and (pt_cmp (pc_notN (pv 3))) (pw_and1 (pt_cmpR op_eq (pe_ix ix_tup (pv 3) pe_int (fun _ _ => rfl)) (pv 1) (nomark _))))))) (fun _ _ _ _ _ => by exact (pv 2)))), ?_⟩
    refine ⟨_, rfl, a, xs, rfl, SqL.of hx, fun D hD => ?_⟩
    have lx := TreeAt.len px
    refine lc_it (walk_enum (K := K) (a := a) (xs := xs)) (fun i H' => H' D = some (.lst (nl ((List.range i).filter fun c => isKid x (Sq34.place t c)))) ∧ Same H H') ⟨upd_same, same_upd hD⟩ (fun i H' _ ⟨_, sm⟩ => SqL.of (sm _ _ hx)) ?_ ?_
    · rintro i v H3 H4 hi ⟨hD3, sm⟩ ⟨Tp, y1, y2, rfl, nT, rfl, e1, e2⟩
      have ey1 : V.int (i : Int) = y1 := Option.some.inj e1
      subst ey1
      obtain ⟨v', hv', lv⟩ := TreeAt.get px (x := i) (by omega)
      have ey2 : v' = y2 := Option.some.inj (hv'.symm.trans e2)
      subst ey2
      have s4 : Same H3 (upd H3 Tp (.tup [.int (i : Int), v'])) := same_upd nT
      have lv4 := (lv.same sm).same s4
      have hD4 := s4 _ _ hD3
      have ef := range_filter (fun c => isKid x (Sq34.place t c)) i
      refine ⟨Tp, _, rfl, SqT.of upd_same, rfl, _, _, rfl, _, _, rfl, rfl, rfl, ?_⟩
      refine ⟨_, rfl, _, rfl, ?_⟩
      cases hq : Sq34.place t i with
      | none =>
        rw [hq] at lv4 ef
        have ev : v' = .non := lv4
        refine if_false_of (by rw [ev]; rfl) (if_false_of rfl ⟨?_, sm.trans s4⟩)
        rw [ef, if_neg (by exact Bool.false_ne_true), List.append_nil]
        exact hD4
      | some q =>
        rw [hq] at lv4 ef
        obtain ⟨u, l⟩ := q
        obtain ⟨pp, rfl, hpp⟩ := lv4
        refine if_true_of rfl ?_
        refine ⟨_, rfl, pp, _, 0, _, rfl, rfl, SqT.of hpp, at_of (j := 0) rfl rfl, _, rfl, rfl, _, rfl, ?_⟩
        by_cases hu : u = x
        · refine if_true_of (decide_eq_true (by rw [hu])) ⟨_, rfl, _, hD4, ?_, ?_, same_new (sm.trans s4) hD⟩
          · rw [nl_len]
            refine Nat.lt_of_le_of_lt (Nat.le_trans (List.length_filter_le _ _) ?_ : _ ≤ 1000) (by decide)
            rw [List.length_range]
            omega
          · have : isKid x (some (u, l)) = true := by simp [isKid, hu]
            rw [upd_same, ef, if_pos this, nl_snoc]
        · refine if_false_of (decide_eq_false (fun z => hu (by injection z with z; omega))) ⟨?_, sm.trans s4⟩
          have : ¬ isKid x (some (u, l)) = true := by simp [isKid, hu]
          rw [ef, if_neg this, List.append_nil]
          exact hD4
    · rintro H' ⟨hD', sm⟩
      rw [lx] at hD'
      exact k D H' sm hD hD'
end
end Pv
end
section
set_option maxRecDepth 100000
set_option maxHeartbeats 4000000
namespace Pv
open PySem PySem.Spec PyProof.Rows L2 PvR
def PairAt (H : Hp) (v : V) (q : Nat × Nat) : Prop := ∃ p, v = .ref p ∧ H p = some (.tup [.int (q.1 : Int), .int (q.2 : Int)])
def TripAt (H : Hp) (v : V) (q : Trip) : Prop := ∃ p, v = .ref p ∧ H p = some (.tup [.int (q.1 : Int), .int (q.2.1 : Int), .int (q.2.2 : Int)])
theorem PairAt.kp {H H' : Hp} {v : V} {q : Nat × Nat} (s : Kp H H') (h : PairAt H v q) : PairAt H' v q := by
  obtain ⟨p, e, h⟩ := h
  exact ⟨p, e, s _ _ h fun ys z => by cases z⟩
theorem TripAt.kp {H H' : Hp} {v : V} {q : Trip} (s : Kp H H') (h : TripAt H v q) : TripAt H' v q := by
  obtain ⟨p, e, h⟩ := h
  exact ⟨p, e, s _ _ h fun ys z => by cases z⟩
theorem Paired.unsnoc {α β : Type} {F : α → β → Prop} {y : β} : ∀ {ys : List β} {xs : List α}, Paired F xs (ys ++ [y]) → ∃ xs' x, xs = xs' ++ [x] ∧ Paired F xs' ys ∧ F x y
  | [], xs, h => by
    cases h with
    | cons r t =>
      cases t
      exact ⟨[], _, rfl, .nil, r⟩
  | z :: ys, xs, h => by
    cases h with
    | cons r t =>
      obtain ⟨xs', x', e, h1, h2⟩ := Paired.unsnoc (ys := ys) t
      exact ⟨_ :: xs', x', by rw [e]; rfl, .cons r h1, h2⟩
theorem yes {A B : Prop} (h : A) : if true = true then A else B := by
  rw [if_pos rfl]
  exact h
theorem bnd {n : Nat} (h : n ≤ 10000000) : n < sizeLine := Nat.lt_of_le_of_lt h (by decide)
theorem nl_get {l : List Nat} {i : Nat} {v : V} (h : (nl l)[i]? = some v) : ∃ n, l[i]? = some n ∧ v = .int (n : Int) := by
  unfold nl at h
  rw [List.getElem?_map] at h
  cases e : l[i]? with
  | none => rw [e] at h; cases h
  | some n =>
    rw [e] at h
    exact ⟨n, rfl, (Option.some.inj h).symm⟩
theorem nl_rev (l : List Nat) : (nl l).reverse = nl l.reverse := by unfold nl; rw [List.map_reverse]
section
variable {P : Program} {w : World} {K : PySem.W.Frag} {mg : Str → Option Value} {base : Heap} {c : Cl} {fR : Addr}
/-! ### below_root -/
abbrev sBelow : Stmt := top 18
abbrev nBelow : List Str := ["tree", "found", "waiting", "node", "depth", "child"]
theorem scBelow : FnScope nBelow ["tree"] (defScope sBelow) := ⟨rfl, rfl, rfl, by decide +kernel, rfl, by decide +kernel, by decide +kernel⟩
def spBelow : Sp := fun vs H Q _ => ∃ a t, vs = [.ref a] ∧ TreeAt H a t ∧ Wf t ∧ (sub t 1 0).length ≤ 10000000 ∧ ∀ p H', Same H H' → H p = none → (∃ vF, H' p = some (.lst vF) ∧ Paired (TripAt H') vF (sub t 1 0)) → Q (.ref p) H'
/-- the comprehension's list, turn by turn -/
def WInv (H2 : Hp) (D : Addr) (cs : List Nat) (d : Nat) (i : Nat) (H' : Hp) : Prop := ∃ acc, H' D = some (.lst acc) ∧ Paired (PairAt H') acc ((cs.take i).map fun c => (c, d)) ∧ Same H2 H'
theorem WInv.turn {H2 H' : Hp} {D : Addr} {cs : List Nat} {d i x : Nat} (hD : H2 D = none) (hi : cs[i]? = some x) (h : WInv H2 D cs d i H') {p : Addr} (hp : H' p = none) :
    ∃ acc, (upd H' p (.tup [.int (x : Int), .int (d : Int)])) D = some (.lst acc) ∧ acc.length = (cs.take i).length ∧ WInv H2 D cs d (i + 1) (upd (upd H' p (.tup [.int (x : Int), .int (d : Int)])) D (.lst (acc ++ [.ref p]))) := by
  obtain ⟨acc, h1, h2, sm⟩ := h
  have s4 : Same H' (upd H' p (.tup [.int (x : Int), .int (d : Int)])) := same_upd hp
  have h4 := s4 _ _ h1
  refine ⟨acc, h4, by rw [h2.length, List.length_map], _, upd_same, ?_, same_new (sm.trans s4) hD⟩
  rw [take_more hi, List.map_append]
  exact Paired.app (Paired.mono (fun _ _ q => PairAt.kp (Kp.upd h4) (PairAt.kp (Kp.of s4) q)) h2) (.cons ⟨p, rfl, Kp.upd h4 p _ upd_same fun ys z => by cases z⟩ .nil)
theorem sub_up {t : Sq28.Tree} (W : Wf t) {c : Nat} {x : Nat} {l : List Nat} (u : Up t x l) (h : c ∈ kids t x) : ∃ m, Up t c m := ⟨_, kids_up W u h⟩
set_option maxHeartbeats 8000000 in
theorem d_below (T : Txt K mg c fR) (D : DefAt K mg "below_root" sBelow) (DK : Def P w K mg base CX0 1 "children_of" ["tree", "node"] spKids) : Def P w K mg base CX0 2 "below_root" ["tree"] spBelow := by
  obtain ⟨f, fd, hm, F⟩ := D
  obtain ⟨fK, fdK, hmK, kK, bK, GK⟩ := DK
  refine ⟨f, fd, hm, F.kp, F.binds (fun _ _ _ _ _ _ us hl => match us, hl with | [_], _ => rfl), F.ok scBelow (fun vs H Q E h => ?_) (fun cdv A outer s H vs Q E hr h => ?_)⟩
  · obtain ⟨a, t, rfl, _⟩ := h
    rfl
  · obtain ⟨a, t, rfl, tr, W, hB, k⟩ := h
    refine ⟨_, pss_cons (ps_set (i := 1) scBelow.nd rfl (Or.inl rfl) (pe_lst pa_nil))
      (pss_cons (ps_setLc (i := 2) (own := [("child", 5)]) (g := gName 5) (tt := tYes) (te := tTup (tCons (tVar 5) (tCons (tC (.int 1)) tNil))) (by rfl) scBelow.nd rfl rfl (sw_true rfl rfl rfl (by decide +kernel))
          (pi_list (pe_revL (pe_call GK hr rfl hmK kK bK .nil pass0 (pa_cons (pv 0) (pa_cons (pe_num T.root) pa_nil))))) (blkOk_by (N := nBelow) (sc := defScope sBelow) (by decide +kernel)) (fun _ _ _ _ _ => by exact (pg_name (i := 5) scBelow.nd rfl (Or.inl rfl)))
          (fun _ _ _ _ _ => by exact pts_nil) (fun _ _ _ _ _ => by exact (pe_tup (pa_cons (pv 5) (pa_cons pe_int pa_nil)))))
      (pss_cons (ps_while PassesOwn.never (pt_cmpR (op_neNil hr) (pv 2) (pe_lst pa_nil) (nomark _))
        (pss_cons (ps_asg (pe_bm0 PySem.F.plainAttrs_list PySem.F.slot_list_pop PySem.F.type_list_pop mt_pop (pv 2)) (pg_tup rfl (pgs_cons (pg_name (i := 3) scBelow.nd rfl (Or.inl rfl)) (pgs_cons (pg_name (i := 4) scBelow.nd rfl (Or.inr rfl)) pgs_nil))))
        (pss_cons (ps_expr (pe_bm PySem.F.plainAttrs_list PySem.F.slot_list_append PySem.F.type_list_append mt_append (pv 1) (pa_cons (pe_tup (pa_cons (pv 3) (pa_cons (pv 4) (pa_cons (pe_ix ix_tup (pe_ix ix_list (pv 0) (pv 3) (fun _ _ => rfl)) pe_int (fun _ _ => rfl)) pa_nil)))) pa_nil)))
        (pss_one (ps_expr (pe_bm PySem.F.plainAttrs_list PySem.F.slot_list_extend PySem.F.type_list_extend mt_extend (pv 2) (pa_cons
          (pe_lc (own := [("child", 5)]) (g := gName 5) (tt := tYes) (te := tTup (tCons (tVar 5) (tCons (tOp (rI0 fun i j => .int (i + j)) (tVar 4) (tC (.int 1))) tNil))) rfl scBelow.nd
            (pi_list (pe_revL (pe_call GK hr rfl hmK kK bK .nil pass0 (pa_cons (pv 0) (pa_cons (pv 3) pa_nil))))) (blkOk_by (N := nBelow) (sc := defScope sBelow) (by decide +kernel)) (fun _ _ _ _ _ => by exact (pg_name (i := 5) scBelow.nd rfl (Or.inl rfl)))
            (fun _ _ _ _ _ => by exact pts_nil) (fun _ _ _ _ _ => by exact (pe_tup (pa_cons (pv 5) (pa_cons (pe_op op_add (pv 4) pe_int) pa_nil))))) pa_nil)))))))
      (pss_one (ps_ret (pv 1))))), ?_⟩
    -- found = []
    refine ⟨Nat.zero_le _, fun pf hpf => ?_⟩
    have s1 : Same H (upd H pf (.lst [])) := same_upd hpf
    have hpf1 : (upd H pf (.lst [])) pf = some (.lst []) := upd_same
    generalize upd H pf (.lst []) = H1 at s1 hpf1 ⊢
    -- waiting = [..]
    refine ⟨_, rfl, a, t, 0, rfl, tr.same s1, fun pk H2 s2 n2 hk => ?_⟩
    refine ⟨pk, _, rfl, SqL.of hk, fun pr nr => ?_⟩
    have s3 : Same H2 (upd H2 pr (.lst (nl (kidsOf t 0)).reverse)) := same_upd nr
    have hr3 : (upd H2 pr (.lst (nl (kidsOf t 0)).reverse)) pr = some (.lst (nl (kidsOf t 0).reverse)) := by rw [nl_rev]; exact upd_same
    generalize upd H2 pr (.lst (nl (kidsOf t 0)).reverse) = H3 at s3 hr3 ⊢
    refine ⟨pr, rfl, ⟨_, SqL.of hr3⟩, fun pw nw => ?_⟩
    have ek0 : kidsOf t 0 = kids t 0 := (kids_eq W 0).symm
    refine lc_list (K := K) (a := pr) (xs := nl (kidsOf t 0).reverse) (WInv H3 pw (kidsOf t 0).reverse 1) ⟨[], upd_same, .nil, same_upd nw⟩ (fun i H' _ ⟨_, _, _, sm⟩ => SqL.of (sm _ _ hr3)) ?_ ?_
    · rintro i x H' hi hW
      obtain ⟨n, hn, rfl⟩ := nl_get hi
      refine ⟨rfl, ?_⟩
      refine yes (B := WInv H3 pw (kidsOf t 0).reverse 1 (i + 1) H') ?_
      refine ⟨_, rfl, (by show 2 ≤ sizeLine; decide), fun p np => ?_⟩
      obtain ⟨acc, h1, h2, h3⟩ := WInv.turn nw hn hW np
      refine ⟨acc, h1, ?_, h3⟩
      have hl : acc.length ≤ 64 := by
        rw [h2]
        refine Nat.le_trans (by rw [List.length_take]; exact Nat.min_le_right _ _ : _ ≤ (List.reverse _).length) ?_
        rw [List.length_reverse]
        exact Nat.le_trans (List.length_filter_le _ _) (by simp)
      exact bnd (by omega)
    rintro H4 ⟨vW0, hw0, pw0, s4⟩
    rw [nl_len, List.take_length] at pw0
    have sH4 : Same H H4 := ((s1.trans s2).trans s3).trans s4
    have npf : H pf = none := hpf
    have npw : H pw = none := ((s1.trans s2).trans s3).free nw
    have dfw : pf ≠ pw := ne_of_none (s3 _ _ (s2 _ _ hpf1)) nw
    -- while waiting != []
    refine ⟨fun m σ H' => ∃ st done vW vF v3 v4, σ = [some (.ref a), some (.ref pf), some (.ref pw), v3, v4, none] ∧ Same H H' ∧ H' pf = some (.lst vF) ∧ Paired (TripAt H') vF done ∧ H' pw = some (.lst vW) ∧ Paired (PairAt H') vW st.reverse ∧
      done ++ rest t st = sub t 1 0 ∧ (∀ q ∈ st, ∃ l, Up t q.1 l ∧ 2 ≤ q.1) ∧ m = (rest t st).length,
      ⟨_, (kids t 0).map (fun c => (c, 1)), [], vW0, [], none, none, rfl, sH4, s4 _ _ (s3 _ _ (s2 _ _ hpf1)), .nil, hw0, ?_, ?_, ?_, rfl⟩, ?_⟩
    · rw [← List.map_reverse, ← ek0]
      exact pw0
    · rw [List.nil_append]
      exact rest_start W
    · intro q hq
      obtain ⟨cc, hc, rfl⟩ := List.mem_map.mp hq
      refine ⟨_, kids_up W (.base (by omega)) hc, ?_⟩
      obtain ⟨p, hp, rfl⟩ := List.mem_map.mp hc
      exact W.lo p (mem_under.mp hp).1
    rintro m σ H' ⟨st, done, vW, vF, v3, v4, rfl, sm, hF, pF, hW, pW, eS, uS, rfl⟩
    refine ⟨_, rfl, Nat.zero_le _, fun e he => ⟨pw, e, vW, rfl, rfl, SqL.of ((same_upd he) _ _ hW), SqL.of upd_same, _, rfl, ?_⟩⟩
    have s5 : Same H' (upd H' e (.lst [])) := same_upd he
    generalize upd H' e (.lst []) = H5 at s5 ⊢
    cases st with
    | nil =>
      have : vW = [] := by
        have := pW.length
        exact List.eq_nil_of_length_eq_zero this
      subst this
      refine if_false_of rfl ⟨_, rfl, k pf _ (sm.trans s5) npf ⟨vF, s5 _ _ hF, ?_⟩⟩
      have ed : done = sub t 1 0 := by
        rw [← eS]
        show done = done ++ []
        rw [List.append_nil]
      rw [← ed]
      exact Paired.mono (fun _ _ q => TripAt.kp (Kp.of s5) q) pF
    | cons q st =>
      obtain ⟨x, d⟩ := q
      rw [List.reverse_cons] at pW
      obtain ⟨vW', y, rfl, pW', ⟨py, rfl, hpy⟩⟩ := Paired.unsnoc pW
      have ne : (!(vW' ++ [V.ref py]).isEmpty) = true := by
        cases vW' <;> rfl
      refine if_true_of ne ?_
      obtain ⟨l, ux, hx2⟩ := uS (x, d) List.mem_cons_self
      have ux : Up t x l := ux
      have er := rest_pop W (x := x) (d := d) (st := st) ux
      have hx64 : x < 64 := by
        cases ux with
        | base h => omega
        | step g _ =>
          rw [← (get_some_mem g).2]
          exact W.hi _ (get_some_mem g).1
      refine ⟨fun σ2 H2 => ∃ st2 done vW vF v3 v4, σ2 = [some (.ref a), some (.ref pf), some (.ref pw), v3, v4, none] ∧ Same H H2 ∧ H2 pf = some (.lst vF) ∧ Paired (TripAt H2) vF done ∧ H2 pw = some (.lst vW) ∧ Paired (PairAt H2) vW st2.reverse ∧
        done ++ rest t st2 = sub t 1 0 ∧ (∀ q ∈ st2, ∃ l, Up t q.1 l ∧ 2 ≤ q.1) ∧ (rest t st2).length < (rest t ((x, d) :: st)).length, ?_, ?_⟩
      · rintro σ2 H2' ⟨st2, done2, vW2, vF2, w3, w4, h1, h2, h3, h4, h5, h6, h7, h8, h9⟩
        exact ⟨_, h9, st2, done2, vW2, vF2, w3, w4, h1, h2, h3, h4, h5, h6, h7, h8, rfl⟩
      -- node, depth = waiting.pop()
      have hW5 := s5 _ _ hW
      have hF5 := s5 _ _ hF
      have hpy5 := s5 _ _ hpy
      have lastW : (vW' ++ [V.ref py])[(vW' ++ [V.ref py]).length - 1]? = some (V.ref py) := by simp
      have edrop : (vW' ++ [V.ref py]).dropLast = vW' := by simp
      refine ⟨_, rfl, .inl ⟨rfl, _, SqL.of hW5⟩, pw, _, _, rfl, rfl, hW5, lastW, ?_⟩
      rw [edrop]
      have kp6 : Kp H5 (upd H5 pw (.lst vW')) := Kp.upd hW5
      have sm6 : Same H (upd H5 pw (.lst vW')) := same_new (sm.trans s5) npw
      have hW6 : (upd H5 pw (.lst vW')) pw = some (.lst vW') := upd_same
      have hF6 : (upd H5 pw (.lst vW')) pf = some (.lst vF) := by rw [upd_ne dfw]; exact hF5
      generalize upd H5 pw (.lst vW') = H6 at kp6 sm6 hW6 hF6 ⊢
      have kpA : Kp H' H6 := (Kp.of s5).trans kp6
      refine ⟨py, _, rfl, SqT.of (kp6 _ _ hpy5 fun ys z => by cases z), rfl, _, _, rfl, _, _, rfl, rfl, ?_⟩
      -- found.append(..)
      obtain ⟨q, g⟩ : ∃ q, Sq28.get t x = some q := by
        cases ux with
        | base h => omega
        | step g _ => exact ⟨_, g⟩
      have epl : Sq34.place t x = some (q.under, q.label) := by
        unfold Sq34.place
        rw [g]
        rfl
      have eLab : labelOf t x = q.label := by
        unfold labelOf
        rw [epl]
      obtain ⟨xs6, htr6, px6⟩ := tr.same sm6
      obtain ⟨v, hv, lv⟩ := TreeAt.get px6 hx64
      rw [epl] at lv
      obtain ⟨pp, rfl, hpp⟩ := lv
      have lenTot : (done ++ rest t ((x, d) :: st)).length ≤ 10000000 := by rw [eS]; exact hB
      rw [er, List.length_append, List.length_cons] at lenTot
      have lF : vF.length = done.length := pF.length
      refine ⟨_, rfl, .inl ⟨rfl, _, SqL.of hF6⟩, _, rfl, _, rfl, _, rfl, _, rfl, a, xs6, (x : Int), _, rfl, rfl, SqL.of htr6, atI_nat hv, pp, _, 1, _, rfl, rfl, SqT.of hpp, at_of (j := 1) rfl rfl, (by show 3 ≤ sizeLine; decide), fun p np => ?_⟩
      have s7 : Same H6 (upd H6 p (.tup [.int (x : Int), .int (d : Int), .int (q.label : Int)])) := same_upd np
      have hF7 := s7 _ _ hF6
      have hW7 := s7 _ _ hW6
      have hp7 : (upd H6 p (.tup [.int (x : Int), .int (d : Int), .int (q.label : Int)])) p = some (.tup [.int (x : Int), .int (d : Int), .int (q.label : Int)]) := upd_same
      generalize upd H6 p (.tup [.int (x : Int), .int (d : Int), .int (q.label : Int)]) = H7 at s7 hF7 hW7 hp7 ⊢
      refine ⟨pf, vF, _, rfl, rfl, hF7, bnd (by omega), ?_⟩
      have kp8 : Kp H7 (upd H7 pf (.lst (vF ++ [V.ref p]))) := Kp.upd hF7
      have sm8 : Same H (upd H7 pf (.lst (vF ++ [V.ref p]))) := same_new (sm6.trans s7) npf
      have hF8 : (upd H7 pf (.lst (vF ++ [V.ref p]))) pf = some (.lst (vF ++ [V.ref p])) := upd_same
      have hW8 : (upd H7 pf (.lst (vF ++ [V.ref p]))) pw = some (.lst vW') := by rw [upd_ne (Ne.symm dfw)]; exact hW7
      generalize upd H7 pf (.lst (vF ++ [V.ref p])) = H8 at kp8 sm8 hF8 hW8 ⊢
      have kpB : Kp H' H8 := (kpA.trans (Kp.of s7)).trans kp8
      have pF8 : Paired (TripAt H8) (vF ++ [V.ref p]) (done ++ [(x, d, labelOf t x)]) := by
        refine Paired.app (Paired.mono (fun _ _ q => TripAt.kp kpB q) pF) (.cons ⟨p, rfl, ?_⟩ .nil)
        rw [eLab]
        exact kp8 _ _ hp7 fun ys z => by cases z
      have pW8 : Paired (PairAt H8) vW' st.reverse := Paired.mono (fun _ _ q => PairAt.kp kpB q) pW'
      -- waiting.extend(..)
      refine ⟨_, rfl, .inl ⟨rfl, _, SqL.of hW8⟩, _, rfl, _, rfl, a, t, x, rfl, tr.same sm8, fun pk9 H9 s9 n9 hk9 => ?_⟩
      refine ⟨pk9, _, rfl, SqL.of hk9, fun pr9 nr9 => ?_⟩
      have s10 : Same H9 (upd H9 pr9 (.lst (nl (kidsOf t x)).reverse)) := same_upd nr9
      have hr10 : (upd H9 pr9 (.lst (nl (kidsOf t x)).reverse)) pr9 = some (.lst (nl (kidsOf t x).reverse)) := by rw [nl_rev]; exact upd_same
      generalize upd H9 pr9 (.lst (nl (kidsOf t x)).reverse) = H10 at s10 hr10 ⊢
      refine ⟨pr9, rfl, ⟨_, SqL.of hr10⟩, fun pn nn => ?_⟩
      have ekx : kidsOf t x = kids t x := (kids_eq W x).symm
      refine lc_list (K := K) (a := pr9) (xs := nl (kidsOf t x).reverse) (WInv H10 pn (kidsOf t x).reverse (d + 1)) ⟨[], upd_same, .nil, same_upd nn⟩ (fun i H' _ ⟨_, _, _, sm⟩ => SqL.of (sm _ _ hr10)) ?_ ?_
      · rintro i x' H'' hi hW''
        obtain ⟨n, hn, rfl⟩ := nl_get hi
        refine ⟨rfl, ?_⟩
        refine yes (B := WInv H10 pn (kidsOf t x).reverse (d + 1) (i + 1) H'') ?_
        refine ⟨_, rfl, _, rfl, _, _, rfl, rfl, (by show 2 ≤ sizeLine; decide), fun p np => ?_⟩
        obtain ⟨acc, h1, h2, h3⟩ := WInv.turn nn hn hW'' np
        refine ⟨acc, h1, ?_, h3⟩
        have hl : acc.length ≤ 64 := by
          rw [h2]
          refine Nat.le_trans (by rw [List.length_take]; exact Nat.min_le_right _ _ : _ ≤ (List.reverse _).length) ?_
          rw [List.length_reverse]
          exact Nat.le_trans (List.length_filter_le _ _) (by simp)
        exact bnd (by omega)
      rintro H11 ⟨vN, hN, pN, s11⟩
      rw [nl_len, List.take_length] at pN
      have sT : Same H8 H11 := (s9.trans s10).trans s11
      have hW11 := sT _ _ hW8
      have hF11 := sT _ _ hF8
      have lW : vW'.length = st.length := by rw [pW'.length, List.length_reverse]
      have lN : vN.length = (kids t x).length := by rw [pN.length, List.length_map, List.length_reverse, ekx]
      have lR := rest_len t ((kids t x).map (fun c => (c, d + 1)) ++ st)
      rw [List.length_append, List.length_map] at lR
      refine ⟨pw, pn, vW', vN, rfl, rfl, hW11, hN, Nat.le_of_lt (bnd (by omega)), ?_⟩
      have kp12 : Kp H11 (upd H11 pw (.lst (vW' ++ vN))) := Kp.upd hW11
      refine ⟨(kids t x).map (fun c => (c, d + 1)) ++ st, done ++ [(x, d, labelOf t x)], vW' ++ vN, vF ++ [V.ref p], _, _, rfl, same_new (sm8.trans sT) npw, ?_, ?_, upd_same, ?_, ?_, ?_, ?_⟩
      · rw [upd_ne dfw]
        exact hF11
      · exact Paired.mono (fun _ _ q => TripAt.kp ((Kp.of sT).trans kp12) q) pF8
      · rw [List.reverse_append]
        refine Paired.app (Paired.mono (fun _ _ q => PairAt.kp ((Kp.of sT).trans kp12) q) pW8) ?_
        rw [← List.map_reverse, ← ekx]
        exact Paired.mono (fun _ _ q => PairAt.kp kp12 q) pN
      · rw [List.append_assoc, ← eS, er]
        rfl
      · intro q' hq'
        rcases List.mem_append.mp hq' with hq' | hq'
        · obtain ⟨cc, hc, rfl⟩ := List.mem_map.mp hq'
          refine ⟨_, kids_up W ux hc, ?_⟩
          obtain ⟨p', hp', rfl⟩ := List.mem_map.mp hc
          exact W.lo p' (mem_under.mp hp').1
        · exact uS q' (List.mem_cons_of_mem _ hq')
      · rw [er, List.length_cons]
        exact Nat.lt_succ_self _
end
end Pv
end
section
set_option maxRecDepth 100000
set_option maxHeartbeats 4000000
namespace Pv
open PySem PySem.Spec PyProof.Rows L2 PvR
theorem cutV_to {xs : List V} {k : Nat} : cutV xs none (some (k : Int)) = xs.take k := by
  unfold cutV
  rw [HT.sIx_none, HT.sIx_nat, List.drop_zero, Nat.sub_zero]
  by_cases h : k ≤ xs.length
  · rw [Nat.min_eq_left h]
  · rw [Nat.min_eq_right (by omega), List.take_length, List.take_of_length_le (by omega)]
theorem set_at {σ : L2.St} {i : Nat} {v : Option V} (h : i < σ.length) : (σ.set i v)[i]? = some v := List.getElem?_set_self h
/-- [x.f for x in moves]: the list of the numbers -/
theorem lc_field {K : PySem.W.Frag} {c : Cl} {a : Addr} {vs : List V} {ds : List Sq28.Deed} {σ : L2.St} {H2 : Hp} {D : Addr} {Qd : Hp → Prop} {i : Nat} {fld : Str} {φ : Sq28.Deed → Nat} (hi : i < σ.length) (cl : Cls K c.M) (na : NoAttr K c.M fld)
    (hf : ∀ d, (mF d).lookup fld = some (.int (φ d : Int))) (ha : H2 a = some (.lst vs)) (mv : MvsAt c.M H2 vs ds) (hlen : ds.length ≤ 80) (hD : H2 D = none) (k : ∀ H', Same H2 H' → H' D = some (.lst (nl (ds.map φ))) → Qd H') :
    ∃ W : Nat → Nat → Hp → Prop, (∃ m, W 0 m (upd H2 D (.lst []))) ∧ ∀ j m H, W j m H →
      ((Itl K a).stop j H ∧ Qd H) ∨ ((Itl K a).go j H ∧ ∃ Nx : Hp → Prop, (∀ H', Nx H' → ∃ m', m' < m ∧ W (j + 1) m' H') ∧ ∀ x H', (Itl K a).yld j H x H' → gName i x (wipe σ [i]) H' fun σ2 H2 => wipe σ2 [i] = wipe σ [i] ∧ tYes σ2 H2 fun b H3 =>
        if b = true then tFld K (tVar i) fld σ2 H3 fun y H4 => ∃ acc, H4 D = some (.lst acc) ∧ acc.length < sizeLine ∧ Nx (upd H4 D (.lst (acc ++ [y]))) else Nx H3) := by
  refine lc_list (K := K) (a := a) (xs := vs) (fun j H' => H' D = some (.lst (nl ((ds.take j).map φ))) ∧ Same H2 H') ⟨upd_same, same_upd hD⟩ (fun j H' _ ⟨_, sm⟩ => SqL.of (sm _ _ ha)) ?_ ?_
  · rintro j x H' hx ⟨hD', sm⟩
    obtain ⟨d, hd, md⟩ := Paired.at_ mv hx
    obtain ⟨am, dx, rfl, ham⟩ := md.same sm
    refine ⟨?_, ?_⟩
    · show (((σ.set i none).set i (some (V.ref am))).set i none) = σ.set i none
      rw [List.set_set, List.set_set]
    refine yes (B := H' D = some (.lst (nl ((ds.take (j + 1)).map φ))) ∧ Same H2 H') ?_
    refine ⟨_, set_at (by rw [wipe_length]; exact hi), am, c.M, dx, _, _, rfl, ham, cl, na, hf d, _, hD', ?_, ?_, same_new sm hD⟩
    · rw [nl_len, List.length_map, List.length_take]
      exact Nat.lt_of_le_of_lt (by omega : _ ≤ 1000) (by decide)
    · rw [upd_same, take_more hd, List.map_append, List.map_singleton, nl_snoc]
  · rintro H' ⟨hD', sm⟩
    rw [mv.length, List.take_length] at hD'
    exact k H' sm hD'
section
variable {P : Program} {w : World} {K : PySem.W.Frag} {mg : Str → Option Value} {base : Heap} {c : Cl} {fR : Addr}
/-! ### World -/
abbrev sWorld : Stmt := inClass (top 21) 0
abbrev nWorld : List Str := ["self", "replicas", "replica"]
theorem scWorld : FnScope nWorld ["self", "replicas"] (defScope sWorld) := ⟨rfl, rfl, rfl, by decide +kernel, rfl, by decide +kernel, by decide +kernel⟩
/-- the addresses that only the world holds -/
def foot (pw : Addr) (z : WPts) : List Addr := pw :: z.pm :: z.pl :: z.pks
def WKInv (H1 : Hp) (D : Addr) (i : Nat) (H' : Hp) : Prop := ∃ pks : List Addr, H' D = some (.lst (pks.map V.ref)) ∧ pks.length = i ∧ (∀ b ∈ pks, H' b = some (.lst []) ∧ H1 b = none ∧ b ≠ D) ∧ pks.Nodup ∧ Same H1 H'
def spWorld (c : Cl) : Sp := fun vs H Q _ => ∃ (p dx : Addr) (n : Nat), vs = [.ref p, .int (n : Int)] ∧ n ≤ 1000 ∧ H p = some (.ins c.W dx []) ∧
  ∀ H' z, WAt c H' p z ⟨[], List.replicate n []⟩ → (z.pm :: z.pl :: z.pks).Nodup → (∀ b ∈ z.pm :: z.pl :: z.pks, H b = none) → (∀ b o, H b = some o → b ≠ p → H' b = some o) → Q .non H'
theorem wF_made (pm pl : Addr) : putF "learned" (.ref pl) (putF "moves" (.ref pm) []) = wF pm pl := by
  rw [put_new (f := "moves") (by show ([] : List Str).contains "moves" = false; decide +kernel), put_new (f := "learned") (by show (["moves"] : List Str).contains "learned" = false; decide +kernel)]
  rfl
theorem ok_world {f : Addr} {fd : FuncData} (F : Fun K "__init__" "World.__init__" sWorld f fd) (T : Txt K mg c fR) : FnOk P w K mg base CX0 1 f fd ["self", "replicas"] (spWorld c) := by
  refine F.ok scWorld (fun vs H Q E h => ?_) (fun cdv A outer s H vs Q E hr h => ?_)
  · obtain ⟨p, dx, n, rfl, _⟩ := h
    rfl
  · obtain ⟨p, dx, n, rfl, hn, hp, k⟩ := h
    refine ⟨_, pss_cons (ps_fld (pv 0) (pe_lst pa_nil) rfl) (pss_one (ps_fld (pv 0) (pe_lc (own := [("replica", 2)]) (g := gName 2) (tt := tYes) (te := tLst tNil) rfl scWorld.nd (pi_range1 rfl T.range (pa_cons (pv 1) pa_nil))
      (blkOk_by (N := nWorld) (sc := defScope sWorld) (by decide +kernel)) (fun _ _ _ _ _ => by exact (pg_name (i := 2) scWorld.nd rfl (Or.inl rfl))) (fun _ _ _ _ _ => by exact pts_nil) (fun _ _ _ _ _ => by exact (pe_lst pa_nil))) rfl)), ?_⟩
    refine ⟨Nat.zero_le _, fun pm npm => ?_⟩
    have dpm : p ≠ pm := ne_of_none hp npm
    refine ⟨_, rfl, p, c.W, dx, [], rfl, by rw [upd_ne dpm]; exact hp, T.clW, T.nMoves, by decide, ?_⟩
    have keep1 : ∀ b o, H b = some o → b ≠ p → (upd (upd H pm (.lst [])) p (.ins c.W dx (putF "moves" (.ref pm) []))) b = some o := fun b o e hb => by
      rw [upd_ne hb, upd_ne (ne_of_none e npm)]
      exact e
    have hp1 : (upd (upd H pm (.lst [])) p (.ins c.W dx (putF "moves" (.ref pm) []))) p = some (.ins c.W dx (putF "moves" (.ref pm) [])) := upd_same
    have hm1 : (upd (upd H pm (.lst [])) p (.ins c.W dx (putF "moves" (.ref pm) []))) pm = some (.lst []) := by rw [upd_ne (Ne.symm dpm), upd_same]
    have new1 : ∀ b, (upd (upd H pm (.lst [])) p (.ins c.W dx (putF "moves" (.ref pm) []))) b = none → H b = none := fun b e => by
      by_cases hb : b = p
      · rw [hb, hp1] at e; cases e
      · by_cases hb2 : b = pm
        · rw [hb2]; exact npm
        · rw [upd_ne hb, upd_ne hb2] at e; exact e
    generalize upd (upd H pm (.lst [])) p (.ins c.W dx (putF "moves" (.ref pm) [])) = H1 at keep1 hp1 hm1 new1 ⊢
    refine ⟨_, rfl, (n : Int), rfl, by omega, by omega, fun D hD => ?_⟩
    refine lc_range (lo := 0) (n := (n : Int).toNat) (WKInv H1 D)
      ⟨[], upd_same, rfl, fun b hb => (by cases hb), List.nodup_nil, same_upd hD⟩ ?_ ?_
    · rintro i H' hi ⟨pks, hD', hl, hall, nd, sm⟩
      refine ⟨rfl, yes (B := WKInv H1 D (i + 1) H') ?_⟩
      refine ⟨Nat.zero_le _, fun q nq => ?_⟩
      have s4 : Same H' (upd H' q (.lst [])) := same_upd nq
      have dq : D ≠ q := ne_of_none hD' nq
      refine ⟨pks.map V.ref, s4 _ _ hD', ?_, pks ++ [q], ?_, ?_, ?_, ?_, same_new (sm.trans s4) hD⟩
      · rw [List.length_map, hl]
        exact Nat.lt_of_le_of_lt (by omega : _ ≤ 1000) (by decide)
      · rw [upd_same, List.map_append]
        rfl
      · rw [List.length_append, hl]
        rfl
      · intro b hb
        rcases List.mem_append.mp hb with hb | hb
        · obtain ⟨h1, h2, h3⟩ := hall b hb
          exact ⟨by rw [upd_ne h3]; exact s4 _ _ h1, h2, h3⟩
        · rw [List.mem_singleton] at hb
          subst hb
          exact ⟨by rw [upd_ne (Ne.symm dq), upd_same], sm.free nq, Ne.symm dq⟩
      · refine List.nodup_append.mpr ⟨nd, by simp, fun a ha b hb e => ?_⟩
        rw [List.mem_singleton] at hb
        subst hb
        subst e
        have := (hall a ha).1
        rw [nq] at this
        cases this
    · rintro H' ⟨pks, hD', hl, hall, nd, sm⟩
      refine ⟨_, rfl, p, c.W, dx, _, rfl, sm _ _ hp1, T.clW, T.nLearned, by show 1 < 1000; decide, ?_⟩
      have dpD : p ≠ D := ne_of_none hp1 hD
      have dmD : pm ≠ D := ne_of_none hm1 hD
      refine k _ ⟨dx, pm, D, pks⟩ ⟨?_, ⟨[], ?_, .nil⟩, ?_, ?_⟩ ?_ ?_ ?_
      · exact Eq.trans upd_same (congrArg (fun q => some (HO.ins c.W dx q)) (wF_made pm D))
      · show (upd H' p _) pm = _
        rw [upd_ne (Ne.symm dpm)]
        exact sm _ _ hm1
      · show (upd H' p _) D = _
        rw [upd_ne (Ne.symm dpD)]
        exact hD'
      · have en : (n : Int).toNat = n := Int.toNat_natCast n
        rw [en] at hl
        have : List.replicate n ([] : List Sq28.Deed) = pks.map fun _ => [] := by
          rw [← hl]
          exact (List.map_const' ..).symm
        show Paired _ pks (List.replicate n [])
        rw [this]
        refine Paired.of_map fun b hb => ⟨[], ?_, .nil⟩
        rw [upd_ne (fun e => ?_)]
        · exact (hall b hb).1
        · have := (hall b hb).2.1
          rw [e, hp1] at this
          cases this
      · show (pm :: D :: pks).Nodup
        refine List.nodup_cons.mpr ⟨fun hm => ?_, List.nodup_cons.mpr ⟨fun hm => (hall D hm).2.2 rfl, nd⟩⟩
        rcases List.mem_cons.mp hm with e | hm
        · exact dmD e
        · have := (hall pm hm).2.1
          rw [hm1] at this
          cases this
      · intro b hb
        rcases List.mem_cons.mp hb with e | hb
        · rw [e]; exact npm
        · rcases List.mem_cons.mp hb with e | hb
          · rw [e]; exact new1 _ hD
          · exact new1 _ (hall b hb).2.1
      · intro b o e hb
        rw [upd_ne hb]
        exact sm _ _ (keep1 b o e hb)
/-! ### knows -/
abbrev sKnows : Stmt := top 22
abbrev nKnows : List Str := ["world", "replica", "move", "other"]
theorem scKnows : FnScope nKnows ["world", "replica", "move"] (defScope sKnows) := ⟨rfl, rfl, rfl, by decide +kernel, rfl, by decide +kernel, by decide +kernel⟩
def spKnows (c : Cl) : Sp := fun vs H Q _ => ∃ pw z h k v d, vs = [.ref pw, .int ((k : Nat) : Int), v] ∧ WAt c H pw z h ∧ Ok h ∧ k < h.desks.length ∧ MvAt c.M H v d ∧ d ∈ h.all ∧ ∀ H', Same H H' → Q (.bl ((h.desk k).contains d)) H'
theorem id_in {h : Sq34.House} (O : Ok h) {k : Nat} {d : Sq28.Deed} (hd : d ∈ h.all) : ((h.desk k).map (·.id)).contains d.id = (h.desk k).contains d := by
  rw [Bool.eq_iff_iff, List.contains_iff_mem, List.contains_iff_mem, List.mem_map]
  constructor
  · rintro ⟨e, he, q⟩
    rw [← O.idn (desk_all O he) hd q]
    exact he
  · exact fun hm => ⟨d, hm, rfl⟩
theorem d_knows (T : Txt K mg c fR) (D : DefAt K mg "knows" sKnows) : Def P w K mg base CX0 1 "knows" ["world", "replica", "move"] (spKnows c) := by
  obtain ⟨f, fd, hm, F⟩ := D
  refine ⟨f, fd, hm, F.kp, F.binds (fun _ _ _ _ _ _ us hl => match us, hl with | [_, _, _], _ => rfl), F.ok scKnows (fun vs H Q E h => ?_) (fun cdv A outer s H vs Q E hr h => ?_)⟩
  · obtain ⟨pw, z, h, k, v, d, rfl, _⟩ := h
    rfl
  · obtain ⟨pw, z, h, k, v, d, rfl, W, O, hk, ⟨am, dx, rfl, ham⟩, hd, kq⟩ := h
    obtain ⟨pk, e1, _, vsK, hpk, mk⟩ := W.desk hk
    refine ⟨_, pss_one (ps_ret (pe_cmpR op_in_seq (pe_fld (pv 2) rfl) (pe_lc (own := [("other", 3)]) (g := gName 3) (tt := tYes) (te := tFld K (tVar 3) "number") rfl scKnows.nd (pi_list (pe_ix ix_list (pe_fld (pv 0) rfl) (pv 1) (fun _ _ => rfl)))
      (blkOk_by (N := nKnows) (sc := defScope sKnows) (by decide +kernel)) (fun _ _ _ _ _ => by exact (pg_name (i := 3) scKnows.nd rfl (Or.inl rfl))) (fun _ _ _ _ _ => by exact pts_nil) (fun _ _ _ _ _ => by exact (pe_fld (pv 3) rfl))) (by rfl))), ?_⟩
    refine ⟨_, rfl, am, c.M, dx, _, _, rfl, ham, T.clM, T.nNumber, mF_number d, ?_⟩
    refine ⟨_, rfl, pw, c.W, z.dx, _, _, rfl, W.w, T.clW, T.nLearned, wF_learned _ _, _, rfl, z.pl, _, (k : Int), _, rfl, rfl, SqL.of W.l, atI_nat e1, ?_⟩
    refine ⟨pk, rfl, ⟨_, SqL.of hpk⟩, fun D hD => ?_⟩
    refine lc_field (φ := fun d => d.id) (by show 3 < 4; decide) T.clM T.nNumber mF_number hpk mk ((O.desk (desk_mem hk)).len) hD fun H' sm hD' => ?_
    refine ⟨D, _, rfl, .inl (SqL.of hD'), rfl, nl_flat _, ?_⟩
    show Q (.bl (inV (.int (d.id : Int)) (nl ((h.desk k).map fun d => d.id)))) H'
    rw [nl_in, id_in O hd]
    exact kq H' sm
/-! ### next_counter -/
abbrev sNext : Stmt := top 23
abbrev nNext : List Str := ["world", "replica", "move"]
theorem scNext : FnScope nNext ["world", "replica"] (defScope sNext) := ⟨rfl, rfl, rfl, by decide +kernel, rfl, by decide +kernel, by decide +kernel⟩
def spNext (c : Cl) : Sp := fun vs H Q _ => ∃ pw z h k, vs = [.ref pw, .int ((k : Nat) : Int)] ∧ WAt c H pw z h ∧ Ok h ∧ k < h.desks.length ∧ ∀ H', Same H H' → Q (.int ((h.next k : Nat) : Int)) H'
theorem fold_max : ∀ (l : List Nat) (m : Nat), (l.map fun (n : Nat) => (n : Int)).foldl max (m : Int) = ((l.foldl max m : Nat) : Int)
  | [], _ => rfl
  | a :: l, m => by
    rw [List.map_cons, List.foldl_cons, List.foldl_cons, ← fold_max l]
    congr 1
    omega
theorem max_counts (l : List Sq28.Deed) : maxOr 0 ((l.map fun d => d.stamp.count).map fun (n : Nat) => (n : Int)) = ((l.foldl (fun (m : Nat) d => max m d.stamp.count) 0 : Nat) : Int) := by
  cases l with
  | nil => rfl
  | cons d l =>
    show (((l.map fun d => d.stamp.count).map fun (n : Nat) => (n : Int))).foldl max (d.stamp.count : Int) = _
    rw [fold_max, List.foldl_map, List.foldl_cons]
    rw [Nat.zero_max]
theorem nl_ints (l : List Nat) : nl l = (l.map fun (n : Nat) => (n : Int)).map V.int := by
  unfold nl
  rw [List.map_map]
  rfl
theorem d_next (T : Txt K mg c fR) (D : DefAt K mg "next_counter" sNext) : Def P w K mg base CX0 1 "next_counter" ["world", "replica"] (spNext c) := by
  obtain ⟨f, fd, hm, F⟩ := D
  refine ⟨f, fd, hm, F.kp, F.binds (fun _ _ _ _ _ _ us hl => match us, hl with | [_, _], _ => rfl), F.ok scNext (fun vs H Q E h => ?_) (fun cdv A outer s H vs Q E hr h => ?_)⟩
  · obtain ⟨pw, z, h, k, rfl, _⟩ := h
    rfl
  · obtain ⟨pw, z, h, k, rfl, W, O, hk, kq⟩ := h
    obtain ⟨pk, e1, _, vsK, hpk, mk⟩ := W.desk hk
    refine ⟨_, pss_one (ps_ret (pe_op op_add pe_int (pe_callBK (cr_maxDf rfl hr) (by rfl) T.max boot_max (pa_cons (pe_lc (own := [("move", 2)]) (g := gName 2) (tt := tYes) (te := tFld K (tVar 2) "counter") rfl scNext.nd (pi_list (pe_ix ix_list (pe_fld (pv 0) rfl) (pv 1) (fun _ _ => rfl)))
      (blkOk_by (N := nNext) (sc := defScope sNext) (by decide +kernel)) (fun _ _ _ _ _ => by exact (pg_name (i := 2) scNext.nd rfl (Or.inl rfl))) (fun _ _ _ _ _ => by exact pts_nil) (fun _ _ _ _ _ => by exact (pe_fld (pv 2) rfl))) pa_nil) (pk_cons pe_int pk_nil)))), ?_⟩
    refine ⟨_, rfl, pw, c.W, z.dx, _, _, rfl, W.w, T.clW, T.nLearned, wF_learned _ _, _, rfl, z.pl, _, (k : Int), _, rfl, rfl, SqL.of W.l, atI_nat e1, ?_⟩
    refine ⟨pk, rfl, ⟨_, SqL.of hpk⟩, fun D hD => ?_⟩
    refine lc_field (φ := fun d => d.stamp.count) (by show 2 < 3; decide) T.clM T.nCounter mF_counter hpk mk ((O.desk (desk_mem hk)).len) hD fun H' sm hD' => ?_
    rw [nl_ints] at hD'
    refine ⟨D, _, 0, rfl, rfl, SqL.of hD', _, _, rfl, rfl, ?_⟩
    rw [max_counts]
    have e : (1 : Int) + (((h.desk k).foldl (fun (m : Nat) d => max m d.stamp.count) 0 : Nat) : Int) = ((h.next k : Nat) : Int) := by
      unfold Sq34.House.next
      omega
    show Q (.int ((1 : Int) + (((h.desk k).foldl (fun (m : Nat) d => max m d.stamp.count) 0 : Nat) : Int))) H'
    rw [e]
    exact kq H' sm
end
end Pv
end
section
set_option maxRecDepth 100000
set_option maxHeartbeats 4000000
namespace Pv
open PySem PySem.Spec PyProof.Rows L2 PvR
/-- a comprehension that keeps some of the moves -/
def KeepInv (C : Addr) (H2 : Hp) (D : Addr) (ds : List Sq28.Deed) (p : Sq28.Deed → Bool) (i : Nat) (H' : Hp) : Prop := ∃ acc, H' D = some (.lst acc) ∧ MvsAt C H' acc ((ds.take i).filter p) ∧ Same H2 H'
theorem KeepInv.start {C : Addr} {H2 : Hp} {D : Addr} {ds : List Sq28.Deed} {p : Sq28.Deed → Bool} (hD : H2 D = none) : KeepInv C H2 D ds p 0 (upd H2 D (.lst [])) := ⟨[], upd_same, .nil, same_upd hD⟩
theorem KeepInv.yes_ {C : Addr} {H2 H' H'' : Hp} {D : Addr} {ds : List Sq28.Deed} {p : Sq28.Deed → Bool} {i : Nat} {v : V} {d : Sq28.Deed} (hD : H2 D = none) (hl : ds.length ≤ 80) (h : KeepInv C H2 D ds p i H') (sm : Same H' H'') (hd : ds[i]? = some d) (mv : MvAt C H'' v d) (hp : p d = true) :
    ∃ acc, H'' D = some (.lst acc) ∧ acc.length < sizeLine ∧ KeepInv C H2 D ds p (i + 1) (upd H'' D (.lst (acc ++ [v]))) := by
  obtain ⟨acc, h1, h2, s2⟩ := h
  have h4 := sm _ _ h1
  refine ⟨acc, h4, ?_, _, upd_same, ?_, same_new (s2.trans sm) hD⟩
  · rw [h2.length]
    refine Nat.lt_of_le_of_lt (Nat.le_trans (List.length_filter_le _ _) ?_ : _ ≤ 1000) (by decide)
    rw [List.length_take]
    omega
  · rw [take_more hd, List.filter_append, List.filter_cons_of_pos hp, List.filter_nil]
    exact Paired.app (MvsAt.kp (Kp.upd h4) (h2.same sm)) (.cons (MvAt.kp (Kp.upd h4) mv) .nil)
theorem KeepInv.no_ {C : Addr} {H2 H' H'' : Hp} {D : Addr} {ds : List Sq28.Deed} {p : Sq28.Deed → Bool} {i : Nat} {d : Sq28.Deed} (h : KeepInv C H2 D ds p i H') (sm : Same H' H'') (hd : ds[i]? = some d) (hp : p d = false) : KeepInv C H2 D ds p (i + 1) H'' := by
  obtain ⟨acc, h1, h2, s2⟩ := h
  refine ⟨acc, sm _ _ h1, ?_, s2.trans sm⟩
  rw [take_more hd, List.filter_append, List.filter_cons_of_neg (by rw [hp]; exact Bool.false_ne_true), List.filter_nil, List.append_nil]
  exact h2.same sm
section
variable {P : Program} {w : World} {K : PySem.W.Frag} {mg : Str → Option Value} {base : Heap} {c : Cl} {fR : Addr}
/-! ### not_known -/
abbrev sNot : Stmt := top 24
abbrev nNot : List Str := ["world", "replica", "other", "move"]
theorem scNot : FnScope nNot ["world", "replica", "other"] (defScope sNot) := ⟨rfl, rfl, rfl, by decide +kernel, rfl, by decide +kernel, by decide +kernel⟩
def spNot (c : Cl) : Sp := fun vs H Q _ => ∃ pw z h k j, vs = [.ref pw, .int ((k : Nat) : Int), .int ((j : Nat) : Int)] ∧ WAt c H pw z h ∧ Ok h ∧ k < h.desks.length ∧ j < h.desks.length ∧ ∀ p H', Same H H' → H p = none → MlAt c.M H' p (news h k j) → Q (.ref p) H'
theorem d_not (T : Txt K mg c fR) (D : DefAt K mg "not_known" sNot) (DK : Def P w K mg base CX0 1 "knows" ["world", "replica", "move"] (spKnows c)) (DO : Def P w K mg base CX0 4 "in_order" ["moves"] (spOrder c)) :
    Def P w K mg base CX0 5 "not_known" ["world", "replica", "other"] (spNot c) := by
  obtain ⟨f, fd, hm, F⟩ := D
  obtain ⟨fK, fdK, hmK, kK, bK, GK⟩ := DK
  obtain ⟨fO, fdO, hmO, kO, bO, GO⟩ := DO
  refine ⟨f, fd, hm, F.kp, F.binds (fun _ _ _ _ _ _ us hl => match us, hl with | [_, _, _], _ => rfl), F.ok scNot (fun vs H Q E h => ?_) (fun cdv A outer s H vs Q E hr h => ?_)⟩
  · obtain ⟨pw, z, h, k, j, rfl, _⟩ := h
    rfl
  · obtain ⟨pw, z, h, k, j, rfl, W, O, hk, hj, kq⟩ := h
    obtain ⟨pk, e1, _, vsK, hpk, mk⟩ := W.desk hj
    have hr1 : Room 1 _ := hr.mono (by decide)
    refine ⟨_, pss_one (ps_ret (pe_call GO hr rfl hmO kO bO .nil pass0 (pa_cons (pe_lc (own := [("move", 3)]) (g := gName 3) (tt := tNot (tB (tCall (spKnows c) [] E0 (tCons (tVar 0) (tCons (tVar 1) (tCons (tVar 3) tNil)))))) (te := tVar 3) rfl scNot.nd (pi_list (pe_ix ix_list (pe_fld (pv 0) rfl) (pv 2) (fun _ _ => rfl)))
      (blkOk_by (N := nNot) (sc := defScope sNot) (by decide +kernel)) (fun _ _ _ _ _ => by exact (pg_name (i := 3) scNot.nd rfl (Or.inl rfl)))
      (fun _ _ _ _ _ => by exact (pts_one (pt_not (pt_val (pe_call GK hr1 rfl hmK kK bK .nil pass0 (pa_cons (pv 0) (pa_cons (pv 1) (pa_cons (pv 3) pa_nil)))))))) (fun _ _ _ _ _ => by exact (pv 3))) pa_nil))), ?_⟩
    refine ⟨_, rfl, pw, c.W, z.dx, _, _, rfl, W.w, T.clW, T.nLearned, wF_learned _ _, _, rfl, z.pl, _, (j : Int), _, rfl, rfl, SqL.of W.l, atI_nat e1, ?_⟩
    refine ⟨pk, rfl, ⟨_, SqL.of hpk⟩, fun D hD => ?_⟩
    have okj := O.desk (desk_mem hj)
    refine lc_list (K := K) (a := pk) (xs := vsK) (KeepInv c.M H D (h.desk j) fun d => !(h.desk k).contains d) (KeepInv.start hD) (fun i H' _ ⟨_, _, _, sm⟩ => SqL.of (sm _ _ hpk)) ?_ ?_
    · rintro i x H' hx hI
      obtain ⟨d, hd, md⟩ := Paired.at_ mk hx
      have sm : Same H H' := hI.choose_spec.2.2
      refine ⟨rfl, ?_⟩
      refine ⟨_, rfl, _, rfl, _, rfl, pw, z, h, k, x, d, rfl, W.same sm, O, hk, md.same sm, desk_all O (List.mem_of_getElem? hd), fun H'' s2 => ⟨_, rfl, ?_⟩⟩
      cases hc : (h.desk k).contains d with
      | true => exact if_false_of rfl (hI.no_ s2 hd (by simp only [hc]; rfl))
      | false =>
        refine if_true_of rfl ⟨_, rfl, ?_⟩
        exact hI.yes_ hD okj.len s2 hd ((md.same sm).same s2) (by simp only [hc]; rfl)
    · rintro H' ⟨acc, h1, h2, sm⟩
      rw [take_all mk.length] at h2
      refine ⟨D, _, rfl, ⟨acc, h1, h2⟩, okj.dst.filter _, fun p H'' s2 n2 hp => ?_⟩
      refine kq p H'' (sm.trans s2) (sm.free n2) ?_
      unfold news
      rw [← sorted_filter okj.dst]
      exact hp
/-! ### view_moves -/
abbrev sView : Stmt := top 25
abbrev nView : List Str := ["world", "replica", "many", "counter", "origin", "move"]
theorem scView : FnScope nView ["world", "replica", "many", "counter", "origin"] (defScope sView) := ⟨rfl, rfl, rfl, by decide +kernel, rfl, by decide +kernel, by decide +kernel⟩
def viewOf (l : List Sq28.Deed) (i cc aa : Nat) : List Sq28.Deed := (l.take i).filter fun d => !(Sq28.Stamp.before ⟨cc, aa⟩ d.stamp)
def spView (c : Cl) : Sp := fun vs H Q _ => ∃ pw z h k i cc aa, vs = [.ref pw, .int ((k : Nat) : Int), .int ((i : Nat) : Int), .int ((cc : Nat) : Int), .int ((aa : Nat) : Int)] ∧ WAt c H pw z h ∧ Ok h ∧ k < h.desks.length ∧ ∀ p H', Same H H' → H p = none → MlAt c.M H' p (viewOf (h.desk k) i cc aa) → Q (.ref p) H'
theorem le_stamp (d : Sq28.Deed) (cc aa : Nat) : Ob.lexAt (fun j => decide (([(d.stamp.count : Int), (d.stamp.hand : Int)] : List Int).getD j 0 = ([(cc : Int), (aa : Int)] : List Int).getD j 0)) (fun j => decide (([(d.stamp.count : Int), (d.stamp.hand : Int)] : List Int).getD j 0 ≤ ([(cc : Int), (aa : Int)] : List Int).getD j 0)) (decide (([(d.stamp.count : Int), (d.stamp.hand : Int)] : List Int).length ≤ ([(cc : Int), (aa : Int)] : List Int).length)) 0 (min ([(d.stamp.count : Int), (d.stamp.hand : Int)] : List Int).length ([(cc : Int), (aa : Int)] : List Int).length) =
    !(Sq28.Stamp.before ⟨cc, aa⟩ d.stamp) := by
  show (if decide ((d.stamp.count : Int) = (cc : Int)) = true then (if decide ((d.stamp.hand : Int) = (aa : Int)) = true then true else decide ((d.stamp.hand : Int) ≤ (aa : Int))) else decide ((d.stamp.count : Int) ≤ (cc : Int))) = _
  have hb := before_iff (a := ⟨cc, aa⟩) (b := d.stamp)
  simp only at hb
  rw [Bool.eq_iff_iff, Bool.not_eq_true', ← Bool.not_eq_true, hb]
  by_cases h1 : (d.stamp.count : Int) = (cc : Int)
  · rw [if_pos (decide_eq_true h1)]
    by_cases h2 : (d.stamp.hand : Int) = (aa : Int)
    · rw [if_pos (decide_eq_true h2)]
      constructor
      · intro _
        omega
      · intro _
        rfl
    · rw [if_neg (by rw [decide_eq_false h2]; exact Bool.false_ne_true), decide_eq_true_eq]
      omega
  · rw [if_neg (by rw [decide_eq_false h1]; exact Bool.false_ne_true), decide_eq_true_eq]
    omega
theorem d_view (T : Txt K mg c fR) (D : DefAt K mg "view_moves" sView) (DS : Def P w K mg base CX0 1 "stamp" ["move"] (spStamp c)) : Def P w K mg base CX0 2 "view_moves" ["world", "replica", "many", "counter", "origin"] (spView c) := by
  obtain ⟨f, fd, hm, F⟩ := D
  obtain ⟨fS, fdS, hmS, kS, bS, GS⟩ := DS
  refine ⟨f, fd, hm, F.kp, F.binds (fun _ _ _ _ _ _ us hl => match us, hl with | [_, _, _, _, _], _ => rfl), F.ok scView (fun vs H Q E h => ?_) (fun cdv A outer s H vs Q E hr h => ?_)⟩
  · obtain ⟨pw, z, h, k, i, cc, aa, rfl, _⟩ := h
    rfl
  · obtain ⟨pw, z, h, k, i, cc, aa, rfl, W, O, hk, kq⟩ := h
    obtain ⟨pk, e1, _, vsK, hpk, mk⟩ := W.desk hk
    refine ⟨_, pss_one (ps_ret (pe_lc (own := [("move", 5)]) (g := gName 5) (tt := tTest (tOp (rLeT K) (tCall (spStamp c) [] E0 (tCons (tVar 5) tNil)) (tTup (tCons (tVar 3) (tCons (tVar 4) tNil))))) (te := tVar 5) rfl scView.nd
      (pi_list (pe_slice sl_list (pe_ix ix_list (pe_fld (pv 0) rfl) (pv 1) (fun _ _ => rfl)) po_none (po_some (pv 2))))
      (blkOk_by (N := nView) (sc := defScope sView) (by decide +kernel)) (fun _ _ _ _ _ => by exact (pg_name (i := 5) scView.nd rfl (Or.inl rfl)))
      (fun _ _ _ _ _ => by exact (pts_one (pt_cmpR (op_leT hr.units0) (pe_call GS hr rfl hmS kS bS .nil pass0 (pa_cons (pv 5) pa_nil)) (pe_tup (pa_cons (pv 3) (pa_cons (pv 4) pa_nil))) (nomark _)))) (fun _ _ _ _ _ => by exact (pv 5)))), ?_⟩
    refine ⟨_, rfl, pw, c.W, z.dx, _, _, rfl, W.w, T.clW, T.nLearned, wF_learned _ _, _, rfl, z.pl, _, (k : Int), _, rfl, rfl, SqL.of W.l, atI_nat e1, ?_⟩
    refine ⟨_, rfl, (i : Int), rfl, pk, vsK, rfl, SqL.of hpk, fun ps ns => ?_⟩
    have s1 : Same H (upd H ps (.lst (cutV vsK none (some (i : Int))))) := same_upd ns
    have hps : (upd H ps (.lst (cutV vsK none (some (i : Int))))) ps = some (.lst (vsK.take i)) := by rw [cutV_to]; exact upd_same
    generalize upd H ps (.lst (cutV vsK none (some (i : Int)))) = H1 at s1 hps ⊢
    have mt : MvsAt c.M H1 (vsK.take i) ((h.desk k).take i) := Paired.tk i (mk.same s1)
    have okt := (O.desk (desk_mem hk)).take i
    refine ⟨ps, rfl, ⟨_, SqL.of hps⟩, fun D hD => ?_⟩
    refine lc_list (K := K) (a := ps) (xs := vsK.take i) (KeepInv c.M H1 D ((h.desk k).take i) fun d => !(Sq28.Stamp.before ⟨cc, aa⟩ d.stamp)) (KeepInv.start hD) (fun i H' _ ⟨_, _, _, sm⟩ => SqL.of (sm _ _ hps)) ?_ ?_
    · rintro m x H' hx hI
      obtain ⟨d, hd, md⟩ := Paired.at_ mt hx
      have sm : Same H1 H' := hI.choose_spec.2.2
      refine ⟨rfl, ?_⟩
      refine ⟨_, rfl, x, d, rfl, md.same sm, fun p H2 s2 n2 hp2 => ?_⟩
      refine ⟨_, rfl, _, rfl, (by show 2 ≤ sizeLine; decide), fun q nq => ?_⟩
      have s3 : Same H2 (upd H2 q (.tup [.int (cc : Int), .int (aa : Int)])) := same_upd nq
      refine ⟨p, q, [(d.stamp.count : Int), (d.stamp.hand : Int)], [(cc : Int), (aa : Int)], rfl, rfl, SqT.of (s3 _ _ hp2), SqT.of upd_same, _, rfl, ?_⟩
      rw [le_stamp]
      cases hc : Sq28.Stamp.before ⟨cc, aa⟩ d.stamp with
      | true => exact if_false_of rfl (hI.no_ (s2.trans s3) hd (by simp only [hc]; rfl))
      | false =>
        refine if_true_of rfl ⟨_, rfl, ?_⟩
        exact hI.yes_ hD okt.len (s2.trans s3) hd (((md.same sm).same s2).same s3) (by simp only [hc]; rfl)
    · rintro H' ⟨acc, h1, h2, sm⟩
      rw [take_all mt.length] at h2
      exact kq D H' (s1.trans sm) (s1.free hD) ⟨acc, h1, h2⟩
/-! ### seen -/
abbrev sSeen : Stmt := top 26
theorem scSeen : FnScope ["world", "replica", "many"] ["world", "replica", "many"] (defScope sSeen) := ⟨rfl, rfl, rfl, by decide +kernel, rfl, by decide +kernel, by decide +kernel⟩
def spSeen (c : Cl) : Sp := fun vs H Q _ => ∃ pw z h k i, vs = [.ref pw, .int ((k : Nat) : Int), .int ((i : Nat) : Int)] ∧ WAt c H pw z h ∧ Ok h ∧ k < h.desks.length ∧ ∀ p H', Same H H' → H p = none → TreeAt H' p (Sq34.knew i (h.desk k)) → Q (.ref p) H'
theorem d_seen (T : Txt K mg c fR) (D : DefAt K mg "seen" sSeen) (DT : Def P w K mg base CX0 6 "tree_of" ["moves"] (spTree c)) : Def P w K mg base CX0 7 "seen" ["world", "replica", "many"] (spSeen c) := by
  obtain ⟨f, fd, hm, F⟩ := D
  obtain ⟨fS, fdS, hmS, kS, bS, GS⟩ := DT
  refine ⟨f, fd, hm, F.kp, F.binds (fun _ _ _ _ _ _ us hl => match us, hl with | [_, _, _], _ => rfl), F.ok scSeen (fun vs H Q E h => ?_) (fun cdv A outer s H vs Q E hr h => ?_)⟩
  · obtain ⟨pw, z, h, k, i, rfl, _⟩ := h
    rfl
  · obtain ⟨pw, z, h, k, i, rfl, W, O, hk, kq⟩ := h
    obtain ⟨pk, e1, _, vsK, hpk, mk⟩ := W.desk hk
    refine ⟨_, pss_one (ps_ret (pe_call GS hr rfl hmS kS bS .nil pass0 (pa_cons (pe_slice sl_list (pe_ix ix_list (pe_fld (pv 0) rfl) (pv 1) (fun _ _ => rfl)) po_none (po_some (pv 2))) pa_nil))), ?_⟩
    refine ⟨_, rfl, pw, c.W, z.dx, _, _, rfl, W.w, T.clW, T.nLearned, wF_learned _ _, _, rfl, z.pl, _, (k : Int), _, rfl, rfl, SqL.of W.l, atI_nat e1, ?_⟩
    refine ⟨_, rfl, (i : Int), rfl, pk, vsK, rfl, SqL.of hpk, fun ps ns => ?_⟩
    have s1 : Same H (upd H ps (.lst (cutV vsK none (some (i : Int))))) := same_upd ns
    have hps : (upd H ps (.lst (cutV vsK none (some (i : Int))))) ps = some (.lst (vsK.take i)) := by rw [cutV_to]; exact upd_same
    generalize upd H ps (.lst (cutV vsK none (some (i : Int)))) = H1 at s1 hps ⊢
    have okk := O.desk (desk_mem hk)
    refine ⟨ps, _, rfl, ⟨_, hps, Paired.tk i (mk.same s1)⟩, okk.take i, fun pt H' s2 n2 tr => ?_⟩
    refine kq pt H' (s1.trans s2) (s1.free n2) ?_
    rw [knew_eq okk]
    exact tr
end
end Pv
end
section
set_option maxRecDepth 100000
set_option maxHeartbeats 4000000
namespace Pv
open PySem PySem.Spec PyProof.Rows L2 PvR
section
variable {P : Program} {w : World} {K : PySem.W.Frag} {mg : Str → Option Value} {base : Heap} {c : Cl} {fR : Addr}
/-! ### since_when -/
abbrev sSince : Stmt := top 27
abbrev nSince : List Str := ["world", "replica", "node", "many", "now"]
theorem scSince : FnScope nSince ["world", "replica", "node"] (defScope sSince) := ⟨rfl, rfl, rfl, by decide +kernel, rfl, by decide +kernel, by decide +kernel⟩
def spSince (c : Cl) : Sp := fun vs H Q _ => ∃ pw z h k x, vs = [.ref pw, .int ((k : Nat) : Int), .int ((x : Nat) : Int)] ∧ WAt c H pw z h ∧ Ok h ∧ k < h.desks.length ∧ x < 64 ∧ ∀ H', Same H H' → Q (.int ((Sq34.since (h.desk k) x : Nat) : Int)) H'
theorem d_since (T : Txt K mg c fR) (D : DefAt K mg "since_when" sSince) (DS : Def P w K mg base CX0 7 "seen" ["world", "replica", "many"] (spSeen c)) : Def P w K mg base CX0 8 "since_when" ["world", "replica", "node"] (spSince c) := by
  obtain ⟨f, fd, hm, F⟩ := D
  obtain ⟨fS, fdS, hmS, kS, bS, GS⟩ := DS
  refine ⟨f, fd, hm, F.kp, F.binds (fun _ _ _ _ _ _ us hl => match us, hl with | [_, _, _], _ => rfl), F.ok scSince (fun vs H Q E h => ?_) (fun cdv A outer s H vs Q E hr h => ?_)⟩
  · obtain ⟨pw, z, h, k, x, rfl, _⟩ := h
    rfl
  · obtain ⟨pw, z, h, k, x, rfl, W, O, hk, hx, kq⟩ := h
    obtain ⟨pk, e1, _, vsK, hpk, mk⟩ := W.desk hk
    refine ⟨_, pss_cons (ps_set (i := 3) scSince.nd rfl (Or.inl rfl) (pe_callB call_len_seq (by rfl) T.len PySem.boot_len (pa_cons (pe_ix ix_list (pe_fld (pv 0) rfl) (pv 1) (fun _ _ => rfl)) pa_nil)))
      (pss_cons (ps_set (i := 4) scSince.nd rfl (Or.inl rfl) (pe_ix ix_list (pe_call GS hr rfl hmS kS bS .nil pass0 (pa_cons (pv 0) (pa_cons (pv 1) (pa_cons (pv 3) pa_nil)))) (pv 2) (fun _ _ => rfl)))
      (pss_cons (ps_while PassesOwn.never (PW.pt (pw_and (pt_cmpR op_gt (pv 3) pe_int (nomark _)) (pw_and1 (pt_cmpR (op_eqD hr.units) (pe_ix ix_list (pe_call GS hr rfl hmS kS bS .nil pass0 (pa_cons (pv 0) (pa_cons (pv 1) (pa_cons (pe_op op_sub (pv 3) pe_int) pa_nil)))) (pv 2) (fun _ _ => rfl)) (pv 4) (nomark _)))))
        (pss_one (ps_set (i := 3) scSince.nd rfl (Or.inl rfl) (pe_op op_sub (pv 3) pe_int))))
      (pss_one (ps_ret (pv 3))))), ?_⟩
    have lK : vsK.length = (h.desk k).length := mk.length
    refine ⟨_, rfl, pw, c.W, z.dx, _, _, rfl, W.w, T.clW, T.nLearned, wF_learned _ _, _, rfl, z.pl, _, (k : Int), _, rfl, rfl, SqL.of W.l, atI_nat e1, pk, _, rfl, .inl (SqL.of hpk), ?_⟩
    refine ⟨_, rfl, _, rfl, _, rfl, pw, z, h, k, vsK.length, rfl, W, O, hk, fun pt H1 s1 n1 ⟨xs, hxs, px⟩ => ?_⟩
    obtain ⟨v, hv, lv⟩ := TreeAt.get px hx
    refine ⟨_, rfl, pt, xs, (x : Int), v, rfl, rfl, SqL.of hxs, atI_nat hv, ?_⟩
    rw [lK] at lv ⊢
    refine ⟨fun m σ H' => ∃ j : Nat, σ = [some (.ref pw), some (.int (k : Int)), some (.int (x : Int)), some (.int (j : Int)), some v] ∧ Same H1 H' ∧ j ≤ (h.desk k).length ∧
      (∀ i, j ≤ i → i ≤ (h.desk k).length → Sq34.place (Sq34.knew i (h.desk k)) x = Sq34.place (Sq34.knew (h.desk k).length (h.desk k)) x) ∧ m = j,
      ⟨_, (h.desk k).length, rfl, Same.refl _, Nat.le_refl _, fun i h1 h2 => by rw [Nat.le_antisymm h2 h1], rfl⟩, ?_⟩
    rintro j σ H' ⟨_, rfl, sm, hj, hall, rfl⟩
    refine ⟨_, rfl, _, _, rfl, rfl, _, rfl, ?_⟩
    cases j with
    | zero =>
      refine if_false_of rfl (if_false_of rfl ?_)
      refine ⟨_, rfl, ?_⟩
      have e := since_is (Nat.zero_le _) (fun i h1 h2 => hall i h1 h2) (.inl rfl)
      have q := kq H' (s1.trans sm)
      rw [e] at q
      exact q
    | succ j =>
      refine if_true_of (decide_eq_true (by omega)) ?_
      have ej : (((j + 1 : Nat) : Int)) - 1 = ((j : Nat) : Int) := by omega
      refine ⟨_, rfl, _, rfl, _, rfl, _, _, rfl, rfl, pw, z, h, k, j, congrArg (fun q => [V.ref pw, V.int (k : Int), V.int q]) ej, (W.same s1).same sm, O, hk, fun pt2 H2 s2 n2 ⟨ys, hys, py⟩ => ?_⟩
      obtain ⟨v', hv', lv'⟩ := TreeAt.get py hx
      refine ⟨_, rfl, pt2, ys, (x : Int), v', rfl, rfl, SqL.of hys, atI_nat hv', _, rfl, locD _, locD _, lv'.dp, ((lv.same sm).same s2).dp, locD_shaped _, locD_shaped _, _, rfl, ?_⟩
      rw [locD_eqv]
      cases hc : (Sq34.place (Sq34.knew j (h.desk k)) x == Sq34.place (Sq34.knew (h.desk k).length (h.desk k)) x) with
      | true =>
        have hc' : Sq34.place (Sq34.knew j (h.desk k)) x = Sq34.place (Sq34.knew (h.desk k).length (h.desk k)) x := by simpa using hc
        refine if_true_of rfl ⟨fun σ2 H3 => ∃ j2 : Nat, σ2 = [some (.ref pw), some (.int (k : Int)), some (.int (x : Int)), some (.int (j2 : Int)), some v] ∧ Same H1 H3 ∧ j2 ≤ (h.desk k).length ∧
          (∀ i, j2 ≤ i → i ≤ (h.desk k).length → Sq34.place (Sq34.knew i (h.desk k)) x = Sq34.place (Sq34.knew (h.desk k).length (h.desk k)) x) ∧ j2 = j, ?_, ?_⟩
        · rintro σ2 H3 ⟨j2, h1, h2, h3, h4, h5⟩
          exact ⟨j2, by omega, j2, h1, h2, h3, h4, rfl⟩
        · refine ⟨_, rfl, _, _, rfl, rfl, j, ?_, sm.trans s2, by omega, fun i h1 h2 => ?_, rfl⟩
          · show [some (V.ref pw), some (V.int (k : Int)), some (V.int (x : Int)), some (V.int ((((j + 1 : Nat) : Int)) - 1)), some v] = _
            rw [ej]
          · by_cases e : i = j
            · rw [e]; exact hc'
            · exact hall i (by omega) h2
      | false =>
        have hc' : ¬ Sq34.place (Sq34.knew j (h.desk k)) x = Sq34.place (Sq34.knew (h.desk k).length (h.desk k)) x := by simpa using hc
        refine if_false_of rfl ⟨_, rfl, ?_⟩
        have e := since_is hj (fun i h1 h2 => hall i h1 h2) (.inr hc')
        have q := kq H2 ((s1.trans sm).trans s2)
        rw [e] at q
        exact q
/-! ### has_surprised -/
abbrev sSurp : Stmt := top 28
abbrev nSurp : List Str := ["world", "replica", "place", "move", "before", "after", "changed", "node"]
theorem scSurp : FnScope nSurp ["world", "replica", "place"] (defScope sSurp) := ⟨rfl, rfl, rfl, by decide +kernel, rfl, by decide +kernel, by decide +kernel⟩
def spSurp (c : Cl) : Sp := fun vs H Q _ => ∃ pw z h k i, vs = [.ref pw, .int ((k : Nat) : Int), .int ((i : Nat) : Int)] ∧ WAt c H pw z h ∧ Ok h ∧ k < h.desks.length ∧ i < (h.desk k).length ∧ ∀ H', Same H H' → Q (.bl (Sq34.surprising (h.desk k) i)) H'
def OthInv (H2 : Hp) (D : Addr) (l : List Nat) (n : Nat) (i : Nat) (H' : Hp) : Prop := H' D = some (.lst (nl ((l.take i).filter fun x => x != n))) ∧ Same H2 H'
theorem isEmpty_ne {α : Type} (l : List α) : (!l.isEmpty) = decide (l ≠ []) := by cases l <;> simp
theorem nl_empty (l : List Nat) : (nl l).isEmpty = l.isEmpty := by cases l <;> rfl
theorem d_surp (T : Txt K mg c fR) (D : DefAt K mg "has_surprised" sSurp) (DS : Def P w K mg base CX0 7 "seen" ["world", "replica", "many"] (spSeen c)) (DU : Def P w K mg base CX0 1 "unlike" ["one", "other"] spUnlike) :
    Def P w K mg base CX0 8 "has_surprised" ["world", "replica", "place"] (spSurp c) := by
  obtain ⟨f, fd, hm, F⟩ := D
  obtain ⟨fS, fdS, hmS, kS, bS, GS⟩ := DS
  obtain ⟨fU, fdU, hmU, kU, bU, GU⟩ := DU
  refine ⟨f, fd, hm, F.kp, F.binds (fun _ _ _ _ _ _ us hl => match us, hl with | [_, _, _], _ => rfl), F.ok scSurp (fun vs H Q E h => ?_) (fun cdv A outer s H vs Q E hr h => ?_)⟩
  · obtain ⟨pw, z, h, k, i, rfl, _⟩ := h
    rfl
  · obtain ⟨pw, z, h, k, i, rfl, W, O, hk, hi, kq⟩ := h
    obtain ⟨pk, e1, _, vsK, hpk, mk⟩ := W.desk hk
    have hr1 : Room 1 _ := hr.mono (by decide)
    obtain ⟨d, hd⟩ : ∃ d, (h.desk k)[i]? = some d := ⟨_, List.getElem?_eq_getElem hi⟩
    have hdm := List.mem_of_getElem? hd
    have okk := O.desk (desk_mem hk)
    have h64 := (okk.rng d hdm).2
    obtain ⟨vm, hvm, am, dx, rfl, ham⟩ := Paired.at2 mk hd
    refine ⟨_, pss_cons (ps_set (i := 3) scSurp.nd rfl (Or.inr rfl) (pe_ix ix_list (pe_ix ix_list (pe_fld (pv 0) rfl) (pv 1) (fun _ _ => rfl)) (pv 2) (fun _ _ => rfl)))
      (pss_cons (ps_par (i := 4) (j := 5) (by rfl) scSurp.nd rfl rfl (by decide) rfl rfl (pa_cons (pe_call GS hr rfl hmS kS bS .nil pass0 (pa_cons (pv 0) (pa_cons (pv 1) (pa_cons (pv 2) pa_nil)))) (pa_cons (pe_call GS hr rfl hmS kS bS .nil pass0 (pa_cons (pv 0) (pa_cons (pv 1) (pa_cons (pe_op op_add (pv 2) pe_int) pa_nil)))) pa_nil)) (by rfl))
      (pss_cons (ps_set (i := 6) scSurp.nd rfl (Or.inl rfl) (pe_call GU hr1 rfl hmU kU bU .nil pass0 (pa_cons (pv 4) (pa_cons (pv 5) pa_nil))))
      (pss_cons (ps_if (pt_cmpR (op_neNil hr) (pe_lc (own := [("node", 7)]) (g := gName 7) (tt := tTest (tOp rNe (tVar 7) (tFld K (tVar 3) "node"))) (te := tVar 7) rfl scSurp.nd (pi_list (pv 6)) (blkOk_by (N := nSurp) (sc := defScope sSurp) (by decide +kernel))
          (fun _ _ _ _ _ => by exact (pg_name (i := 7) scSurp.nd rfl (Or.inl rfl))) (fun _ _ _ _ _ => by exact (pts_one (pt_cmpR op_ne (pv 7) (pe_fld (pv 3) rfl) (nomark _)))) (fun _ _ _ _ _ => by exact (pv 7))) (pe_lst pa_nil) (nomark _))
        (pss_one (ps_ret pe_bl)) pss_nil)
      (pss_one (ps_ret (pe_and (pe_cmpR (op_neNil hr) (pv 6) (pe_lst pa_nil) (nomark _)) (pe_one (pe_cmpR (op_neD hr.units) (pe_ix ix_list (pv 5) (pe_fld (pv 3) rfl) (fun _ _ => rfl)) (pe_tup (pa_cons (pe_fld (pv 3) rfl) (pa_cons (pe_fld (pv 3) rfl) pa_nil))) (nomark _))))))))), ?_⟩
    refine ⟨_, rfl, pw, c.W, z.dx, _, _, rfl, W.w, T.clW, T.nLearned, wF_learned _ _, _, rfl, z.pl, _, (k : Int), _, rfl, rfl, SqL.of W.l, atI_nat e1, _, rfl, pk, vsK, (i : Int), _, rfl, rfl, SqL.of hpk, atI_nat hvm, ?_⟩
    refine ⟨_, rfl, _, rfl, _, rfl, pw, z, h, k, i, rfl, W, O, hk, fun pb H1 s1 n1 trb => ?_⟩
    refine ⟨_, rfl, _, rfl, _, rfl, _, _, rfl, rfl, pw, z, h, k, i + 1, rfl, W.same s1, O, hk, fun pa H2 s2 n2 tra => ?_⟩
    refine ⟨_, _, rfl, ?_⟩
    refine ⟨_, rfl, _, rfl, pb, pa, _, _, rfl, trb.same s2, tra, fun pc H3 s3 n3 hpc => ?_⟩
    have sH3 := (s1.trans s2).trans s3
    have ham3 := sH3 _ _ ham
    have eS := surprising_is hd h64
    -- the others
    refine ⟨_, rfl, pc, rfl, ⟨_, SqL.of hpc⟩, fun D hD => ?_⟩
    refine lc_list (K := K) (a := pc) (xs := nl (Sq34.otherwise (Sq34.knew i (h.desk k)) (Sq34.knew (i + 1) (h.desk k)))) (OthInv H3 D (Sq34.otherwise (Sq34.knew i (h.desk k)) (Sq34.knew (i + 1) (h.desk k))) d.thing) ⟨upd_same, same_upd hD⟩ (fun i H' _ ⟨_, sm⟩ => SqL.of (sm _ _ hpc)) ?_ ?_
    · rintro m x H' hx ⟨hD', sm⟩
      obtain ⟨n, hn, rfl⟩ := nl_get hx
      refine ⟨rfl, ?_⟩
      refine ⟨_, rfl, _, rfl, am, c.M, dx, _, _, rfl, sm _ _ ham3, T.clM, T.nNode, mF_node d, rfl, _, rfl, ?_⟩
      by_cases hne : n = d.thing
      · refine if_false_of (by rw [hne, decide_eq_true rfl]; rfl) ⟨?_, sm⟩
        rw [take_more hn, List.filter_append, List.filter_cons_of_neg (by simp [hne]), List.filter_nil, List.append_nil]
        exact hD'
      · refine if_true_of (by rw [decide_eq_false (fun z => hne (by injection z with z; omega))]; rfl) ⟨_, rfl, _, hD', ?_, ?_, same_new sm hD⟩
        · rw [nl_len]
          refine Nat.lt_of_le_of_lt (Nat.le_trans (List.length_filter_le _ _) (Nat.le_trans (by rw [List.length_take]; exact Nat.min_le_right _ _) ?_) : _ ≤ 1000) (by decide)
          exact Nat.le_trans (List.length_filter_le _ _) (by rw [List.length_range]; decide)
        · rw [upd_same, take_more hn, List.filter_append, List.filter_cons_of_pos (by simp [hne]), List.filter_nil, nl_snoc]
    rintro H4 ⟨hD4, s4⟩
    rw [nl_len, List.take_length] at hD4
    refine ⟨Nat.zero_le _, fun pe ne => ?_⟩
    have s5 : Same H4 (upd H4 pe (.lst [])) := same_upd ne
    refine ⟨D, pe, _, rfl, rfl, SqL.of (s5 _ _ hD4), SqL.of upd_same, _, rfl, ?_⟩
    rw [nl_empty, isEmpty_ne]
    have sH5 := sH3.trans (s4.trans s5)
    have tra5 := (tra.same s3).same (s4.trans s5)
    have hpc5 := (s4.trans s5) _ _ hpc
    have ham5 := sH5 _ _ ham
    generalize upd H4 pe (.lst []) = H5 at sH5 tra5 hpc5 ham5 ⊢
    by_cases ho : ((Sq34.otherwise (Sq34.knew i (h.desk k)) (Sq34.knew (i + 1) (h.desk k))).filter fun x => x != d.thing) ≠ []
    · refine if_true_of (decide_eq_true ho) ?_
      rw [if_pos ho] at eS
      have q := kq H5 sH5
      rw [eS] at q
      exact q
    · refine if_false_of (decide_eq_false ho) ?_
      rw [if_neg ho] at eS
      refine ⟨_, rfl, Nat.zero_le _, fun pe2 ne2 => ⟨pc, pe2, _, rfl, rfl, SqL.of ((same_upd ne2) _ _ hpc5), SqL.of upd_same, _, rfl, ?_⟩⟩
      rw [nl_empty, isEmpty_ne]
      have s6 : Same H5 (upd H5 pe2 (.lst [])) := same_upd ne2
      generalize upd H5 pe2 (.lst []) = H6 at s6 ⊢
      by_cases hn : Sq34.otherwise (Sq34.knew i (h.desk k)) (Sq34.knew (i + 1) (h.desk k)) ≠ []
      · refine if_true_of (decide_eq_true hn) ?_
        rw [decide_eq_true hn, Bool.true_and] at eS
        obtain ⟨xs, hxs, px⟩ := tra5.same s6
        obtain ⟨v, hv, lv⟩ := TreeAt.get px h64
        have ham6 := s6 _ _ ham5
        refine ⟨_, rfl, _, rfl, am, c.M, dx, _, _, rfl, ham6, T.clM, T.nNode, mF_node d, pa, xs, (d.thing : Int), v, rfl, rfl, SqL.of hxs, atI_nat hv, ?_⟩
        refine ⟨_, rfl, am, c.M, dx, _, _, rfl, ham6, T.clM, T.nParent, mF_parent d, _, rfl, am, c.M, dx, _, _, rfl, ham6, T.clM, T.nLabel, mF_label d, (by show 2 ≤ sizeLine; decide), fun pq nq => ?_⟩
        have s7 : Same H6 (upd H6 pq (.tup [.int (d.under : Int), .int (d.label : Int)])) := same_upd nq
        refine ⟨locD (Sq34.place (Sq34.knew (i + 1) (h.desk k)) d.thing), locD (some (d.under, d.label)), (lv.same s7).dp, LocAt.dp (l := some (d.under, d.label)) ⟨pq, rfl, upd_same⟩, locD_shaped _, locD_shaped _, ?_⟩
        rw [locD_eqv]
        have q := kq _ ((sH5.trans s6).trans s7)
        rw [eS] at q
        have ee : (!(Sq34.place (Sq34.knew (i + 1) (h.desk k)) d.thing == some (d.under, d.label))) = decide (Sq34.place (Sq34.knew (i + 1) (h.desk k)) d.thing ≠ some (d.under, d.label)) := by
          by_cases e : Sq34.place (Sq34.knew (i + 1) (h.desk k)) d.thing = some (d.under, d.label)
          · rw [e]; simp
          · simp [e]
        rw [ee]
        exact q
      · refine if_false_of (decide_eq_false hn) ?_
        rw [decide_eq_false hn, Bool.false_and] at eS
        have q := kq H6 (sH5.trans s6)
        rw [eS] at q
        exact q
end
end Pv
end
section
set_option maxRecDepth 100000
set_option maxHeartbeats 4000000
namespace Pv
open PySem PySem.Spec PyProof.Rows L2 PvR
/-- a refusal with that code is what is wished for -/
def Refuse (c : Cl) (E : XK) (H : Hp) (z : Int) : Prop := ∀ d H', Same H H' → H d = none → H' d = some (.xd [(("code" : Str), .int z)]) → E (.ref c.R) (some d) H'
theorem Refuse.mono {c : Cl} {E : XK} {H H' : Hp} {z : Int} (s : Same H H') (h : Refuse c E H z) : Refuse c E H' z := fun d H2 s2 n e => h d H2 (s.trans s2) (s.free n) e
section
variable {P : Program} {w : World} {K : PySem.W.Frag} {mg : Str → Option Value} {base : Heap} {c : Cl} {fR : Addr}
abbrev DefX (P : Program) (w : World) (K : PySem.W.Frag) (mg : Str → Option Value) (base : Heap) (k : Nat) (x : Str) (ps : List Str) (sp : Sp) : Prop := Def P w K mg base (L2.CX P w) k x ps sp
/-! ### ask -/
abbrev sAsk : Stmt := top 36
theorem scAsk : FnScope ["holds", "code"] ["holds", "code"] (defScope sAsk) := ⟨rfl, rfl, rfl, by decide +kernel, rfl, by decide +kernel, by decide +kernel⟩
def spAsk (c : Cl) : Sp := fun vs H Q E => ∃ (b : Bool) (z : Int), vs = [.bl b, .int z] ∧ (b = true → Q .non H) ∧ (b = false → Refuse c E H z)
def t_ask (C : Addr) (E : XK) : TS := tIfS (tNot (tB (tVar 0))) (tRaiseRef C (fun cls d _ H => E cls d H) (tCons (tVar 1) tNil)) tNext
theorem d_ask (T : Txt K mg c fR) (D : DefAt K mg "ask" sAsk) : DefX P w K mg base 1 "ask" ["holds", "code"] (spAsk c) := by
  obtain ⟨f, fd, hm, F⟩ := D
  refine ⟨f, fd, hm, F.kp, F.binds (fun _ _ _ _ _ _ us hl => match us, hl with | [_, _], _ => rfl), F.okX scAsk (fun vs H Q E h => ?_) (fun cdv A outer s H vs Q E hr h => ⟨t_ask c.R E, ?_, ?_⟩)⟩
  · obtain ⟨b, z, rfl, _⟩ := h
    rfl
  · exact pss_one (ps_if (pt_not (pt_val (pv 0))) (pss_one (ps_raiseRef rfl T.ref hr (takes_of rfl rfl rfl rfl) (by exact (pa_cons (pv 1) pa_nil)))) pss_nil)
  · obtain ⟨b, z, rfl, kT, kF⟩ := h
    refine ⟨_, rfl, _, rfl, ?_⟩
    cases b with
    | true => exact if_false_of rfl (kT rfl)
    | false => exact if_true_of rfl ⟨_, rfl, _, rfl, fun d hd => kF rfl d _ (same_upd hd) hd upd_same⟩
/-! ### ask_replica -/
abbrev sAskR : Stmt := top 37
theorem scAskR : FnScope ["world", "replica"] ["world", "replica"] (defScope sAskR) := ⟨rfl, rfl, rfl, by decide +kernel, rfl, by decide +kernel, by decide +kernel⟩
def spAskR (c : Cl) : Sp := fun vs H Q E => ∃ pw z h k, vs = [.ref pw, .int ((k : Nat) : Int)] ∧ WAt c H pw z h ∧ (k < h.desks.length → Q .non H) ∧ (h.desks.length ≤ k → Refuse c E H (-2))
theorem d_askR (T : Txt K mg c fR) (D : DefAt K mg "ask_replica" sAskR) (DA : DefX P w K mg base 1 "ask" ["holds", "code"] (spAsk c)) : DefX P w K mg base 2 "ask_replica" ["world", "replica"] (spAskR c) := by
  obtain ⟨f, fd, hm, F⟩ := D
  obtain ⟨fA, fdA, hmA, kA, bA, GA⟩ := DA
  refine ⟨f, fd, hm, F.kp, F.binds (fun _ _ _ _ _ _ us hl => match us, hl with | [_, _], _ => rfl), F.okX scAskR (fun vs H Q E h => ?_) (fun cdv A outer s H vs Q E hr h => ?_)⟩
  · obtain ⟨pw, z, h, k, rfl, _⟩ := h
    rfl
  · obtain ⟨pw, z, h, k, rfl, W, kT, kF⟩ := h
    refine ⟨_, pss_one (ps_expr (pe_call (E := E) GA hr rfl hmA kA bA .nil (passes_call (takes_of rfl rfl rfl rfl) (fun _ _ _ _ h => h)) (pa_cons (pe_cmpR op_lt (pv 1) (pe_callB call_len_seq (by rfl) T.len PySem.boot_len (pa_cons (pe_fld (pv 0) rfl) pa_nil)) (nomark _)) (pa_cons (pe_num T.noSuch) pa_nil)))), ?_⟩
    refine ⟨_, rfl, _, rfl, pw, c.W, z.dx, _, _, rfl, W.w, T.clW, T.nLearned, wF_learned _ _, z.pl, _, rfl, .inl (SqL.of W.l), _, _, rfl, rfl, ?_⟩
    refine ⟨_, _, rfl, fun e => kT ?_, fun e => kF ?_⟩
    · have := of_decide_eq_true e
      rw [List.length_map, W.len] at this
      omega
    · have := of_decide_eq_false e
      rw [List.length_map, W.len] at this
      omega
/-! ### ask_known -/
abbrev sAskK : Stmt := top 38
theorem scAskK : FnScope ["world", "replica", "many"] ["world", "replica", "many"] (defScope sAskK) := ⟨rfl, rfl, rfl, by decide +kernel, rfl, by decide +kernel, by decide +kernel⟩
def spAskK (c : Cl) : Sp := fun vs H Q E => ∃ pw z h k i, vs = [.ref pw, .int ((k : Nat) : Int), .int ((i : Nat) : Int)] ∧ WAt c H pw z h ∧ k < h.desks.length ∧ (i ≤ (h.desk k).length → Q .non H) ∧ ((h.desk k).length < i → Refuse c E H (-1))
theorem d_askK (T : Txt K mg c fR) (D : DefAt K mg "ask_known" sAskK) (DA : DefX P w K mg base 1 "ask" ["holds", "code"] (spAsk c)) : DefX P w K mg base 2 "ask_known" ["world", "replica", "many"] (spAskK c) := by
  obtain ⟨f, fd, hm, F⟩ := D
  obtain ⟨fA, fdA, hmA, kA, bA, GA⟩ := DA
  refine ⟨f, fd, hm, F.kp, F.binds (fun _ _ _ _ _ _ us hl => match us, hl with | [_, _, _], _ => rfl), F.okX scAskK (fun vs H Q E h => ?_) (fun cdv A outer s H vs Q E hr h => ?_)⟩
  · obtain ⟨pw, z, h, k, i, rfl, _⟩ := h
    rfl
  · obtain ⟨pw, z, h, k, i, rfl, W, hk, kT, kF⟩ := h
    obtain ⟨pk, e1, _, vsK, hpk, mk⟩ := W.desk hk
    refine ⟨_, pss_one (ps_expr (pe_call (E := E) GA hr rfl hmA kA bA .nil (passes_call (takes_of rfl rfl rfl rfl) (fun _ _ _ _ h => h)) (pa_cons (pe_cmpR op_le (pv 2) (pe_callB call_len_seq (by rfl) T.len PySem.boot_len (pa_cons (pe_ix ix_list (pe_fld (pv 0) rfl) (pv 1) (fun _ _ => rfl)) pa_nil)) (nomark _)) (pa_cons (pe_num T.outRange) pa_nil)))), ?_⟩
    refine ⟨_, rfl, _, rfl, pw, c.W, z.dx, _, _, rfl, W.w, T.clW, T.nLearned, wF_learned _ _, _, rfl, z.pl, _, (k : Int), _, rfl, rfl, SqL.of W.l, atI_nat e1, pk, _, rfl, .inl (SqL.of hpk), _, _, rfl, rfl, ?_⟩
    refine ⟨_, _, rfl, fun e => kT ?_, fun e => kF ?_⟩
    · have := of_decide_eq_true e
      rw [mk.length] at this
      omega
    · have := of_decide_eq_false e
      rw [mk.length] at this
      omega
/-! ### ask_place -/
abbrev sAskP : Stmt := top 39
theorem scAskP : FnScope ["node", "parent", "label"] ["node", "parent", "label"] (defScope sAskP) := ⟨rfl, rfl, rfl, by decide +kernel, rfl, by decide +kernel, by decide +kernel⟩
def spAskP (c : Cl) : Sp := fun vs H Q E => ∃ x u v, vs = [.int ((x : Nat) : Int), .int ((u : Nat) : Int), .int ((v : Nat) : Int)] ∧ ((2 ≤ x ∧ x < 64 ∧ u < 64 ∧ v ≤ 1000000000) → Q .non H) ∧ (¬ (2 ≤ x ∧ x < 64 ∧ u < 64 ∧ v ≤ 1000000000) → Refuse c E H (-1))
theorem d_askP (T : Txt K mg c fR) (D : DefAt K mg "ask_place" sAskP) (DA : DefX P w K mg base 1 "ask" ["holds", "code"] (spAsk c)) : DefX P w K mg base 2 "ask_place" ["node", "parent", "label"] (spAskP c) := by
  obtain ⟨f, fd, hm, F⟩ := D
  obtain ⟨fA, fdA, hmA, kA, bA, GA⟩ := DA
  refine ⟨f, fd, hm, F.kp, F.binds (fun _ _ _ _ _ _ us hl => match us, hl with | [_, _, _], _ => rfl), F.okX scAskP (fun vs H Q E h => ?_) (fun cdv A outer s H vs Q E hr h => ?_)⟩
  · obtain ⟨x, u, v, rfl, _⟩ := h
    rfl
  · obtain ⟨x, u, v, rfl, kT, kF⟩ := h
    refine ⟨_, pss_cons (ps_expr (pe_call (E := E) GA hr rfl hmA kA bA .nil (passes_call (takes_of rfl rfl rfl rfl) (fun _ _ _ _ h => h)) (pa_cons (pe_and (pe_cmpR op_le (pe_num T.first) (pv 0) (nomark _)) (pe_one (pe_cmpR op_lt (pv 0) (pe_num T.nodes) (nomark _)))) (pa_cons (pe_num T.outRange) pa_nil))))
      (pss_one (ps_expr (pe_call (E := E) GA hr rfl hmA kA bA .nil (passes_call (takes_of rfl rfl rfl rfl) (fun _ _ _ _ h => h)) (pa_cons (pe_and (pe_cmpR op_lt (pv 1) (pe_num T.nodes) (nomark _)) (pe_one (pe_cmpR op_le (pv 2) (pe_num T.mostLab) (nomark _)))) (pa_cons (pe_num T.outRange) pa_nil))))), ?_⟩
    have second : 2 ≤ x → x < 64 → (tDrop (tCall (spAsk c) [] E (tCons (tAndV (tOp (rI0 fun i j => .bl (decide (i < j))) (tVar 1) (tC (.int 64))) (tOp (rI0 fun i j => .bl (decide (i ≤ j))) (tVar 2) (tC (.int 1000000000)))) (tCons (tC (.int (-1))) tNil)))) { nx := fun _ H' => Q .non H', rt := Q } (start ["node", "parent", "label"] [.int (x : Int), .int (u : Int), .int (v : Int)]) H := fun hx2 hx64 => by
      refine ⟨_, rfl, _, _, rfl, rfl, _, rfl, ?_⟩
      by_cases hu : (u : Int) < 64
      · refine if_true_of (decide_eq_true hu) ⟨_, rfl, _, _, rfl, rfl, ?_⟩
        refine ⟨_, _, rfl, fun e => kT ?_, fun e => kF ?_⟩
        · have := of_decide_eq_true e
          omega
        · have := of_decide_eq_false e
          omega
      · refine if_false_of (decide_eq_false hu) ⟨_, _, rfl, fun e => (by cases e), fun e => kF (by omega)⟩
    refine ⟨_, rfl, _, _, rfl, rfl, _, rfl, ?_⟩
    by_cases h2 : (2 : Int) ≤ (x : Int)
    · refine if_true_of (decide_eq_true h2) ⟨_, rfl, _, _, rfl, rfl, ?_⟩
      refine ⟨_, _, rfl, fun e => ?_, fun e => kF ?_⟩
      · have := of_decide_eq_true e
        exact second (by omega) (by omega)
      · have := of_decide_eq_false e
        omega
    · refine if_false_of (decide_eq_false h2) ⟨_, _, rfl, fun e => (by cases e), fun e => kF (by omega)⟩
/-! ### asked_view -/
abbrev sAView : Stmt := top 40
abbrev nAView : List Str := ["world", "numbers", "replica", "many", "counter", "origin"]
theorem scAView : FnScope nAView ["world", "numbers"] (defScope sAView) := ⟨rfl, rfl, rfl, by decide +kernel, rfl, by decide +kernel, by decide +kernel⟩
def spAView (c : Cl) : Sp := fun vs H Q E => ∃ pw pn z h k i cc aa, vs = [.ref pw, .ref pn] ∧ WAt c H pw z h ∧ Ok h ∧ H pn = some (.lst (nl [k, i, cc, aa])) ∧ (h.desks.length ≤ k → Refuse c E H (-2)) ∧ (k < h.desks.length → (h.desk k).length < i → Refuse c E H (-1)) ∧
  (k < h.desks.length → i ≤ (h.desk k).length → ∀ p H', Same H H' → H p = none → MlAt c.M H' p (viewOf (h.desk k) i cc aa) → Q (.ref p) H')
theorem d_aview (T : Txt K mg c fR) (D : DefAt K mg "asked_view" sAView) (DR : DefX P w K mg base 2 "ask_replica" ["world", "replica"] (spAskR c)) (DK : DefX P w K mg base 2 "ask_known" ["world", "replica", "many"] (spAskK c))
    (DV : Def P w K mg base CX0 2 "view_moves" ["world", "replica", "many", "counter", "origin"] (spView c)) : DefX P w K mg base 3 "asked_view" ["world", "numbers"] (spAView c) := by
  obtain ⟨f, fd, hm, F⟩ := D
  obtain ⟨fR, fdR, hmR, kR, bR, GR⟩ := DR
  obtain ⟨fK, fdK, hmK, kK, bK, GK⟩ := DK
  obtain ⟨fV, fdV, hmV, kV, bV, GV⟩ := DV
  refine ⟨f, fd, hm, F.kp, F.binds (fun _ _ _ _ _ _ us hl => match us, hl with | [_, _], _ => rfl), F.okX scAView (fun vs H Q E h => ?_) (fun cdv A outer s H vs Q E hr h => ?_)⟩
  · obtain ⟨pw, pn, z, h, k, i, cc, aa, rfl, _⟩ := h
    rfl
  · obtain ⟨pw, pn, z, h, k, i, cc, aa, rfl, W, O, hpn, k2, k1, kQ⟩ := h
    refine ⟨_, pss_cons (ps_asg (pv 1) (pg_unl rfl (pgs_cons (pg_name (i := 2) scAView.nd rfl (Or.inl rfl)) (pgs_cons (pg_name (i := 3) scAView.nd rfl (Or.inl rfl)) (pgs_cons (pg_name (i := 4) scAView.nd rfl (Or.inl rfl)) (pgs_cons (pg_name (i := 5) scAView.nd rfl (Or.inl rfl)) pgs_nil))))))
      (pss_cons (ps_expr (pe_call (E := E) GR hr rfl hmR kR bR .nil (passes_call (takes_of rfl rfl rfl rfl) (fun _ _ _ _ h => h)) (pa_cons (pv 0) (pa_cons (pv 2) pa_nil))))
      (pss_cons (ps_expr (pe_call (E := E) GK hr rfl hmK kK bK .nil (passes_call (takes_of rfl rfl rfl rfl) (fun _ _ _ _ h => h)) (pa_cons (pv 0) (pa_cons (pv 2) (pa_cons (pv 3) pa_nil)))))
      (pss_one (ps_ret (pe_call GV hr rfl hmV kV bV .nil pass0 (pa_cons (pv 0) (pa_cons (pv 2) (pa_cons (pv 3) (pa_cons (pv 4) (pa_cons (pv 5) pa_nil)))))))))), ?_⟩
    refine ⟨_, rfl, pn, _, rfl, SqL.of hpn, rfl, _, _, rfl, _, _, rfl, _, _, rfl, _, _, rfl, rfl, ?_⟩
    refine ⟨_, rfl, _, rfl, pw, z, h, k, rfl, W, fun hk => ?_, fun hk => k2 hk⟩
    refine ⟨_, rfl, _, rfl, _, rfl, pw, z, h, k, i, rfl, W, hk, fun hi => ?_, fun hi => k1 hk hi⟩
    exact ⟨_, rfl, _, rfl, _, rfl, _, rfl, _, rfl, pw, z, h, k, i, cc, aa, rfl, W, O, hk, fun p H' sm n ml => kQ hk hi p H' sm n ml⟩
/-! ### asked_tree -/
abbrev sATree : Stmt := top 41
theorem scATree : FnScope ["world", "numbers"] ["world", "numbers"] (defScope sATree) := ⟨rfl, rfl, rfl, by decide +kernel, rfl, by decide +kernel, by decide +kernel⟩
def spATree (c : Cl) : Sp := fun vs H Q E => ∃ pw pn z h k i cc aa, vs = [.ref pw, .ref pn] ∧ WAt c H pw z h ∧ Ok h ∧ H pn = some (.lst (nl [k, i, cc, aa])) ∧ (h.desks.length ≤ k → Refuse c E H (-2)) ∧ (k < h.desks.length → (h.desk k).length < i → Refuse c E H (-1)) ∧
  (k < h.desks.length → i ≤ (h.desk k).length → ∀ p H', Same H H' → H p = none → TreeAt H' p (Sq34.View.tree ⟨i, ⟨cc, aa⟩⟩ (h.desk k)) → Q (.ref p) H')
theorem d_atree (D : DefAt K mg "asked_tree" sATree) (DV : DefX P w K mg base 3 "asked_view" ["world", "numbers"] (spAView c)) (DT : Def P w K mg base CX0 6 "tree_of" ["moves"] (spTree c)) :
    DefX P w K mg base 7 "asked_tree" ["world", "numbers"] (spATree c) := by
  obtain ⟨f, fd, hm, F⟩ := D
  obtain ⟨fV, fdV, hmV, kV, bV, GV⟩ := DV
  obtain ⟨fT, fdT, hmT, kT, bT, GT⟩ := DT
  refine ⟨f, fd, hm, F.kp, F.binds (fun _ _ _ _ _ _ us hl => match us, hl with | [_, _], _ => rfl), F.okX scATree (fun vs H Q E h => ?_) (fun cdv A outer s H vs Q E hr h => ?_)⟩
  · obtain ⟨pw, pn, z, h, k, i, cc, aa, rfl, _⟩ := h
    rfl
  · obtain ⟨pw, pn, z, h, k, i, cc, aa, rfl, W, O, hpn, k2, k1, kQ⟩ := h
    refine ⟨_, pss_one (ps_ret (pe_call GT hr rfl hmT kT bT .nil pass0 (pa_cons (pe_call (E := E) GV (hr.mono (by decide)) rfl hmV kV bV .nil (passes_call (takes_of rfl rfl rfl rfl) (fun _ _ _ _ h => h)) (pa_cons (pv 0) (pa_cons (pv 1) pa_nil))) pa_nil))), ?_⟩
    refine ⟨_, rfl, _, rfl, pw, pn, z, h, k, i, cc, aa, rfl, W, O, hpn, k2, k1, fun hk hi p H' sm n ml => ?_⟩
    have okk := O.desk (desk_mem hk)
    refine ⟨p, _, rfl, ml, (okk.take i).filter _, fun pt H2 s2 n2 tr => ?_⟩
    refine kQ hk hi pt H2 (sm.trans s2) (sm.free n2) ?_
    rw [view_tree okk]
    exact tr
/-! ### ask_there -/
abbrev sAskT : Stmt := top 42
theorem scAskT : FnScope ["tree", "node"] ["tree", "node"] (defScope sAskT) := ⟨rfl, rfl, rfl, by decide +kernel, rfl, by decide +kernel, by decide +kernel⟩
def spAskT (c : Cl) : Sp := fun vs H Q E => ∃ a t x, vs = [.ref a, .int ((x : Nat) : Int)] ∧ TreeAt H a t ∧ Wf t ∧ (Sq28.there t x = true → Q .non H) ∧ (Sq28.there t x = false → Refuse c E H (-3))
theorem d_askT (T : Txt K mg c fR) (D : DefAt K mg "ask_there" sAskT) (DA : DefX P w K mg base 1 "ask" ["holds", "code"] (spAsk c)) (DT : Def P w K mg base CX0 1 "is_there" ["tree", "node"] spThere) : DefX P w K mg base 2 "ask_there" ["tree", "node"] (spAskT c) := by
  obtain ⟨f, fd, hm, F⟩ := D
  obtain ⟨fA, fdA, hmA, kA, bA, GA⟩ := DA
  obtain ⟨fT, fdT, hmT, kT, bT, GT⟩ := DT
  refine ⟨f, fd, hm, F.kp, F.binds (fun _ _ _ _ _ _ us hl => match us, hl with | [_, _], _ => rfl), F.okX scAskT (fun vs H Q E h => ?_) (fun cdv A outer s H vs Q E hr h => ?_)⟩
  · obtain ⟨a, t, x, rfl, _⟩ := h
    rfl
  · obtain ⟨a, t, x, rfl, tr, W, kY, kN⟩ := h
    refine ⟨_, pss_one (ps_expr (pe_call (E := E) GA hr rfl hmA kA bA .nil (passes_call (takes_of rfl rfl rfl rfl) (fun _ _ _ _ h => h)) (pa_cons (pe_call GT hr rfl hmT kT bT .nil pass0 (pa_cons (pv 0) (pa_cons (pv 1) pa_nil))) (pa_cons (pe_num T.notThere) pa_nil)))), ?_⟩
    exact ⟨_, rfl, _, rfl, a, t, x, rfl, tr, W, _, _, rfl, kY, kN⟩
end
end Pv
end
section
set_option maxRecDepth 100000
set_option maxHeartbeats 4000000
namespace Pv
open PySem PySem.Spec PyProof.Rows L2 PvR
/-! ### the desk -/
def dF (pw : Addr) : List (Str × V) := [("world", .ref pw)]
theorem dF_world (pw : Addr) : (dF pw).lookup ("world" : Str) = some (.ref pw) := lk_here
theorem dF_put (pw q : Addr) : putF "world" (.ref q) (dF pw) = dF q := if_pos rfl
/-- the desk at pd, what it holds being new behind H0 -/
structure DAt (c : Cl) (H0 H : Hp) (pd : Addr) (h : Sq34.House) : Prop where
  same : Same H0 H
  ex : ∃ dd pw z, H pd = some (.ins c.D dd (dF pw)) ∧ WAt c H pw z h ∧ (z.pm :: z.pl :: z.pks).Nodup ∧ ∀ b ∈ pd :: pw :: z.pm :: z.pl :: z.pks, H0 b = none
theorem DAt.mono {c : Cl} {H0 H H' : Hp} {pd : Addr} {h : Sq34.House} (D : DAt c H0 H pd h) (s : Same H H') : DAt c H0 H' pd h := by
  obtain ⟨s0, dd, pw, z, h1, h2, h3, h4⟩ := D
  exact ⟨s0.trans s, dd, pw, z, s _ _ h1, h2.same s, h3, h4⟩
theorem nl_is (l : List Nat) : nl l = (Sq34.ints l).map V.int := by
  unfold nl Sq34.ints
  rw [List.map_map]
  rfl
def spDeed (c : Cl) {α : Type} (enc : α → List Nat) (mk : α → Sq34.Call) : Sp := fun vs H Q E => ∃ H0 pd pn h x, vs = [.ref pd, .ref pn] ∧ DAt c H0 H pd h ∧ Ok h ∧ H pn = some (.lst (nl (enc x))) ∧ (h.step (mk x)).2.out.length ≤ 10000000 ∧
  (∀ zc, h.step (mk x) = (h, Sq34.says zc) → Refuse c E H zc) ∧
  (∀ p H', DAt c H0 H' pd (h.step (mk x)).1 → H0 p = none → H' p = some (.lst (((h.step (mk x)).2.value :: (h.step (mk x)).2.out).map V.int)) → Q (.ref p) H')
section
variable {P : Program} {w : World} {K : PySem.W.Frag} {mg : Str → Option Value} {base : Heap} {c : Cl} {fR : Addr}
/-! ### counted -/
abbrev sCounted : Stmt := top 48
theorem scCounted : FnScope ["some"] ["some"] (defScope sCounted) := ⟨rfl, rfl, rfl, by decide +kernel, rfl, by decide +kernel, by decide +kernel⟩
def spCounted : Sp := fun vs H Q _ => ∃ a xs, vs = [.ref a] ∧ H a = some (.lst xs) ∧ xs.length ≤ 10000000 ∧ ∀ p H', Same H H' → H p = none → H' p = some (.lst (.int (xs.length : Int) :: xs)) → Q (.ref p) H'
theorem d_counted (T : Txt K mg c fR) (D : DefAt K mg "counted" sCounted) : Def P w K mg base CX0 1 "counted" ["some"] spCounted := by
  obtain ⟨f, fd, hm, F⟩ := D
  refine ⟨f, fd, hm, F.kp, F.binds (fun _ _ _ _ _ _ us hl => match us, hl with | [_], _ => rfl), F.ok scCounted (fun vs H Q E h => ?_) (fun cdv A outer s H vs Q E hr h => ?_)⟩
  · obtain ⟨a, xs, rfl, _⟩ := h
    rfl
  · obtain ⟨a, xs, rfl, ha, hl, k⟩ := h
    refine ⟨_, pss_one (ps_ret (pe_op op_cat (pe_lst (pa_cons (pe_callB call_len_seq (by rfl) T.len PySem.boot_len (pa_cons (pv 0) pa_nil)) pa_nil)) (pv 0))), ?_⟩
    refine ⟨_, rfl, a, xs, rfl, .inl (SqL.of ha), (by show 1 ≤ sizeLine; decide), fun l nl => ?_⟩
    have s1 : Same H (upd H l (.lst [.int (xs.length : Int)])) := same_upd nl
    refine ⟨_, rfl, l, a, _, xs, rfl, rfl, upd_same, s1 _ _ ha, Nat.le_of_lt (Nat.lt_of_le_of_lt (by show 1 + xs.length ≤ 10000001; omega) (by decide)), fun p np => ?_⟩
    exact k p _ (s1.trans (same_upd np)) (s1.free np) upd_same
/-! ### known -/
abbrev sKnown : Stmt := top 60
abbrev nKnown : List Str := ["desk", "numbers", "move"]
theorem scKnown : FnScope nKnown ["desk", "numbers"] (defScope sKnown) := ⟨rfl, rfl, rfl, by decide +kernel, rfl, by decide +kernel, by decide +kernel⟩
theorem at0 {n : Nat} {l : List Nat} : atI (nl (n :: l)) 0 = some (.int (n : Int)) := at_of (j := 0) rfl rfl
theorem d_known (T : Txt K mg c fR) (D : DefAt K mg "known" sKnown) (DR : DefX P w K mg base 2 "ask_replica" ["world", "replica"] (spAskR c)) (DC : Def P w K mg base CX0 1 "counted" ["some"] spCounted) :
    DefX P w K mg base 9 "known" ["desk", "numbers"] (spDeed c (fun k : Nat => [k]) fun k => .learned k) := by
  obtain ⟨f, fd, hm, F⟩ := D
  obtain ⟨fR, fdR, hmR, kR, bR, GR⟩ := DR
  obtain ⟨fC, fdC, hmC, kC, bC, GC⟩ := DC
  refine ⟨f, fd, hm, F.kp, F.binds (fun _ _ _ _ _ _ us hl => match us, hl with | [_, _], _ => rfl), F.okX scKnown (fun vs H Q E h => ?_) (fun cdv A outer s H vs Q E hr h => ?_)⟩
  · obtain ⟨H0, pd, pn, h, x, rfl, _⟩ := h
    rfl
  · obtain ⟨H0, pd, pn, h, k, rfl, D, O, hpn, hlen, kF, kQ⟩ := h
    have D0 := D
    obtain ⟨s0, dd, pw, z, hpd, W, nd, new⟩ := D
    refine ⟨_, pss_cons (ps_expr (pe_call (E := E) GR (hr.mono (by decide)) rfl hmR kR bR .nil (passes_call (takes_of rfl rfl rfl rfl) (fun _ _ _ _ h => h)) (pa_cons (pe_fld (pv 0) rfl) (pa_cons (pe_ix ix_list (pv 1) pe_int (fun _ _ => rfl)) pa_nil))))
      (pss_one (ps_ret (pe_call GC (hr.mono (by decide)) rfl hmC kC bC .nil pass0 (pa_cons (pe_lc (own := [("move", 2)]) (g := gName 2) (tt := tYes) (te := tFld K (tVar 2) "number") rfl scKnown.nd
        (pi_list (pe_ix ix_list (pe_fld (pe_fld (pv 0) rfl) rfl) (pe_ix ix_list (pv 1) pe_int (fun _ _ => rfl)) (fun _ _ => rfl))) (blkOk_by (N := nKnown) (sc := defScope sKnown) (by decide +kernel)) (fun _ _ _ _ _ => by exact (pg_name (i := 2) scKnown.nd rfl (Or.inl rfl)))
        (fun _ _ _ _ _ => by exact pts_nil) (fun _ _ _ _ _ => by exact (pe_fld (pv 2) rfl))) pa_nil)))), ?_⟩
    refine ⟨_, rfl, pd, c.D, dd, _, _, rfl, hpd, T.clD, T.nWorld, dF_world pw, _, rfl, pn, _, 0, _, rfl, rfl, SqL.of hpn, at0, ?_⟩
    refine ⟨pw, z, h, k, rfl, W, fun hk => ?_, fun hk => kF _ (if_pos hk)⟩
    obtain ⟨pk, e1, _, vsK, hpk, mk⟩ := W.desk hk
    refine ⟨_, rfl, pd, c.D, dd, _, _, rfl, hpd, T.clD, T.nWorld, dF_world pw, pw, c.W, z.dx, _, _, rfl, W.w, T.clW, T.nLearned, wF_learned _ _, _, rfl, pn, _, 0, _, rfl, rfl, SqL.of hpn, at0, z.pl, _, (k : Int), _, rfl, rfl, SqL.of W.l, atI_nat e1, ?_⟩
    refine ⟨pk, rfl, ⟨_, SqL.of hpk⟩, fun L hL => ?_⟩
    have okk := O.desk (desk_mem hk)
    refine lc_field (φ := fun d => d.id) (by show 2 < 3; decide) T.clM T.nNumber mF_number hpk mk okk.len hL fun H' sm hD' => ?_
    refine ⟨L, _, rfl, hD', ?_, fun p H2 s2 n2 hp => ?_⟩
    · rw [nl_len, List.length_map]
      have := okk.len
      omega
    have est : h.step (.learned k) = (h, ⟨(h.desk k).length, Sq34.ints ((h.desk k).map fun d => d.id)⟩) := if_neg (by omega)
    rw [est] at kQ
    refine kQ p H2 (D0.mono (sm.trans s2)) (s0.free (sm.free n2)) ?_
    rw [hp, nl_len, List.length_map, nl_is]
    rfl
/-! ### since -/
abbrev sSinceD : Stmt := top 58
theorem scSinceD : FnScope ["desk", "numbers"] ["desk", "numbers"] (defScope sSinceD) := ⟨rfl, rfl, rfl, by decide +kernel, rfl, by decide +kernel, by decide +kernel⟩
theorem at1 {m n : Nat} {l : List Nat} : atI (nl (m :: n :: l)) 1 = some (.int (n : Int)) := at_of (j := 1) rfl rfl
theorem d_sinceD (T : Txt K mg c fR) (D : DefAt K mg "since" sSinceD) (DR : DefX P w K mg base 2 "ask_replica" ["world", "replica"] (spAskR c)) (DA : DefX P w K mg base 1 "ask" ["holds", "code"] (spAsk c)) (DS : Def P w K mg base CX0 8 "since_when" ["world", "replica", "node"] (spSince c)) :
    DefX P w K mg base 9 "since" ["desk", "numbers"] (spDeed c (fun q : Nat × Nat => [q.1, q.2]) fun q => .since q.1 q.2) := by
  obtain ⟨f, fd, hm, F⟩ := D
  obtain ⟨fR, fdR, hmR, kR, bR, GR⟩ := DR
  obtain ⟨fA, fdA, hmA, kA, bA, GA⟩ := DA
  obtain ⟨fS, fdS, hmS, kS, bS, GS⟩ := DS
  refine ⟨f, fd, hm, F.kp, F.binds (fun _ _ _ _ _ _ us hl => match us, hl with | [_, _], _ => rfl), F.okX scSinceD (fun vs H Q E h => ?_) (fun cdv A outer s H vs Q E hr h => ?_)⟩
  · obtain ⟨H0, pd, pn, h, x, rfl, _⟩ := h
    rfl
  · obtain ⟨H0, pd, pn, h, ⟨k, x⟩, rfl, D, O, hpn, hlen, kF, kQ⟩ := h
    have D0 := D
    obtain ⟨s0, dd, pw, z, hpd, W, nd, new⟩ := D
    refine ⟨_, pss_cons (ps_expr (pe_call (E := E) GR (hr.mono (by decide)) rfl hmR kR bR .nil (passes_call (takes_of rfl rfl rfl rfl) (fun _ _ _ _ h => h)) (pa_cons (pe_fld (pv 0) rfl) (pa_cons (pe_ix ix_list (pv 1) pe_int (fun _ _ => rfl)) pa_nil))))
      (pss_cons (ps_expr (pe_call (E := E) GA (hr.mono (by decide)) rfl hmA kA bA .nil (passes_call (takes_of rfl rfl rfl rfl) (fun _ _ _ _ h => h)) (pa_cons (pe_cmpR op_lt (pe_ix ix_list (pv 1) pe_int (fun _ _ => rfl)) (pe_num T.nodes) (nomark _)) (pa_cons (pe_num T.outRange) pa_nil))))
      (pss_one (ps_ret (pe_lst (pa_cons (pe_call GS hr rfl hmS kS bS .nil pass0 (pa_cons (pe_fld (pv 0) rfl) (pa_cons (pe_ix ix_list (pv 1) pe_int (fun _ _ => rfl)) (pa_cons (pe_ix ix_list (pv 1) pe_int (fun _ _ => rfl)) pa_nil)))) pa_nil))))), ?_⟩
    refine ⟨_, rfl, pd, c.D, dd, _, _, rfl, hpd, T.clD, T.nWorld, dF_world pw, _, rfl, pn, _, 0, _, rfl, rfl, SqL.of hpn, at0, ?_⟩
    refine ⟨pw, z, h, k, rfl, W, fun hk => ?_, fun hk => kF _ (if_pos hk)⟩
    refine ⟨_, rfl, pn, _, 1, _, rfl, rfl, SqL.of hpn, at1, _, _, rfl, rfl, _, _, rfl, fun e => ?_, fun e => kF _ ?_⟩
    · have hx : x < 64 := by
        have := of_decide_eq_true e
        omega
      refine ⟨_, rfl, pd, c.D, dd, _, _, rfl, hpd, T.clD, T.nWorld, dF_world pw, _, rfl, pn, _, 0, _, rfl, rfl, SqL.of hpn, at0, _, rfl, pn, _, 1, _, rfl, rfl, SqL.of hpn, at1, pw, z, h, k, x, rfl, W, O, hk, hx, fun H' sm => ?_⟩
      refine ⟨(by show 1 ≤ sizeLine; decide), fun p np => ?_⟩
      have est : h.step (.since k x) = (h, Sq34.says (Sq34.since (h.desk k) x)) := (if_neg (by omega)).trans (if_neg (by show ¬ 64 ≤ x; omega))
      rw [est] at kQ
      exact kQ p _ (D0.mono (sm.trans (same_upd np))) (s0.free (sm.free np)) upd_same
    · have := of_decide_eq_false e
      exact (if_neg (by omega)).trans (if_pos (by show 64 ≤ x; omega))
/-! ### surprises -/
abbrev sSurpD : Stmt := top 59
abbrev nSurpD : List Str := ["desk", "numbers", "world", "replica", "place"]
theorem scSurpD : FnScope nSurpD ["desk", "numbers"] (defScope sSurpD) := ⟨rfl, rfl, rfl, by decide +kernel, rfl, by decide +kernel, by decide +kernel⟩
def SurpInv (H2 : Hp) (D : Addr) (l : List Sq28.Deed) (i : Nat) (H' : Hp) : Prop := H' D = some (.lst (nl ((List.range i).filter (Sq34.surprising l)))) ∧ Same H2 H'
theorem d_surpD (T : Txt K mg c fR) (D : DefAt K mg "surprises" sSurpD) (DR : DefX P w K mg base 2 "ask_replica" ["world", "replica"] (spAskR c)) (DC : Def P w K mg base CX0 1 "counted" ["some"] spCounted) (DS : Def P w K mg base CX0 8 "has_surprised" ["world", "replica", "place"] (spSurp c)) :
    DefX P w K mg base 9 "surprises" ["desk", "numbers"] (spDeed c (fun k : Nat => [k]) fun k => .surprises k) := by
  obtain ⟨f, fd, hm, F⟩ := D
  obtain ⟨fR, fdR, hmR, kR, bR, GR⟩ := DR
  obtain ⟨fC, fdC, hmC, kC, bC, GC⟩ := DC
  obtain ⟨fS, fdS, hmS, kS, bS, GS⟩ := DS
  refine ⟨f, fd, hm, F.kp, F.binds (fun _ _ _ _ _ _ us hl => match us, hl with | [_, _], _ => rfl), F.okX scSurpD (fun vs H Q E h => ?_) (fun cdv A outer s H vs Q E hr h => ?_)⟩
  · obtain ⟨H0, pd, pn, h, x, rfl, _⟩ := h
    rfl
  · obtain ⟨H0, pd, pn, h, k, rfl, D, O, hpn, hlen, kF, kQ⟩ := h
    have D0 := D
    obtain ⟨s0, dd, pw, z, hpd, W, nd, new⟩ := D
    refine ⟨_, pss_cons (ps_asg (pe_tup (pa_cons (pe_fld (pv 0) rfl) (pa_cons (pe_ix ix_list (pv 1) pe_int (fun _ _ => rfl)) pa_nil))) (pg_tup rfl (pgs_cons (pg_name (i := 2) scSurpD.nd rfl (Or.inr rfl)) (pgs_cons (pg_name (i := 3) scSurpD.nd rfl (Or.inr rfl)) pgs_nil))))
      (pss_cons (ps_expr (pe_call (E := E) GR (hr.mono (by decide)) rfl hmR kR bR .nil (passes_call (takes_of rfl rfl rfl rfl) (fun _ _ _ _ h => h)) (pa_cons (pv 2) (pa_cons (pv 3) pa_nil))))
      (pss_one (ps_ret (pe_call GC (hr.mono (by decide)) rfl hmC kC bC .nil pass0 (pa_cons (pe_lc (own := [("place", 4)]) (g := gName 4) (tt := tB (tCall (spSurp c) [] E0 (tCons (tVar 2) (tCons (tVar 3) (tCons (tVar 4) tNil))))) (te := tVar 4) rfl scSurpD.nd
        (pi_range1 rfl T.range (pa_cons (pe_callB call_len_seq (by rfl) T.len PySem.boot_len (pa_cons (pe_ix ix_list (pe_fld (pv 2) rfl) (pv 3) (fun _ _ => rfl)) pa_nil)) pa_nil)) (blkOk_by (N := nSurpD) (sc := defScope sSurpD) (by decide +kernel)) (fun _ _ _ _ _ => by exact (pg_name (i := 4) scSurpD.nd rfl (Or.inl rfl)))
        (fun _ _ _ _ _ => by exact (pts_one (pt_val (pe_call GS hr rfl hmS kS bS .nil pass0 (pa_cons (pv 2) (pa_cons (pv 3) (pa_cons (pv 4) pa_nil))))))) (fun _ _ _ _ _ => by exact (pv 4))) pa_nil))))), ?_⟩
    refine ⟨_, rfl, pd, c.D, dd, _, _, rfl, hpd, T.clD, T.nWorld, dF_world pw, _, rfl, pn, _, 0, _, rfl, rfl, SqL.of hpn, at0, (by show 2 ≤ sizeLine; decide), fun pt npt => ?_⟩
    have s1 : Same H (upd H pt (.tup [.ref pw, .int (k : Int)])) := same_upd npt
    refine ⟨pt, _, rfl, SqT.of upd_same, rfl, _, _, rfl, _, _, rfl, rfl, ?_⟩
    generalize upd H pt (.tup [.ref pw, .int (k : Int)]) = H1 at s1 ⊢
    have W1 := W.same s1
    refine ⟨_, rfl, _, rfl, pw, z, h, k, rfl, W1, fun hk => ?_, fun hk => (kF _ (if_pos hk)).mono s1⟩
    obtain ⟨pk, e1, _, vsK, hpk, mk⟩ := W1.desk hk
    have okk := O.desk (desk_mem hk)
    have lK : vsK.length = (h.desk k).length := mk.length
    refine ⟨_, rfl, pw, c.W, z.dx, _, _, rfl, W1.w, T.clW, T.nLearned, wF_learned _ _, _, rfl, z.pl, _, (k : Int), _, rfl, rfl, SqL.of W1.l, atI_nat e1, pk, _, rfl, .inl (SqL.of hpk), (vsK.length : Int), rfl, by omega, ?_, fun L hL => ?_⟩
    · have := okk.len
      omega
    refine lc_range (lo := 0) (n := (vsK.length : Int).toNat) (SurpInv H1 L (h.desk k)) ⟨upd_same, same_upd hL⟩ ?_ ?_
    · rintro i H' hi ⟨hD', sm⟩
      have hi' : i < (h.desk k).length := by
        rw [Int.toNat_natCast] at hi
        omega
      have ez : (0 : Int) + (i : Int) = (i : Int) := by omega
      refine ⟨rfl, ?_⟩
      refine ⟨_, rfl, _, rfl, _, rfl, pw, z, h, k, i, congrArg (fun q => [V.ref pw, V.int (k : Int), V.int q]) ez, W1.same sm, O, hk, hi', fun H2 s2 => ⟨_, rfl, ?_⟩⟩
      have ef := range_filter (Sq34.surprising (h.desk k)) i
      have hD2 := s2 _ _ hD'
      cases hc : Sq34.surprising (h.desk k) i with
      | true =>
        refine if_true_of rfl ⟨_, rfl, _, hD2, ?_, ?_, same_new (sm.trans s2) hL⟩
        · rw [nl_len]
          refine Nat.lt_of_le_of_lt (Nat.le_trans (List.length_filter_le _ _) ?_ : _ ≤ 1000) (by decide)
          rw [List.length_range]
          have := okk.len
          omega
        · rw [upd_same, ef, if_pos hc, nl_snoc, ez]
      | false =>
        refine if_false_of rfl ⟨?_, sm.trans s2⟩
        rw [ef, if_neg (by rw [hc]; exact Bool.false_ne_true), List.append_nil]
        exact hD2
    · rintro H' ⟨hD', sm⟩
      rw [Int.toNat_natCast, lK] at hD'
      refine ⟨L, _, rfl, hD', ?_, fun p H2 s2 n2 hp => ?_⟩
      · rw [nl_len]
        refine Nat.le_trans (List.length_filter_le _ _) ?_
        rw [List.length_range]
        have := okk.len
        omega
      have est : h.step (.surprises k) = (h, ⟨((List.range (h.desk k).length).filter (Sq34.surprising (h.desk k))).length, Sq34.ints ((List.range (h.desk k).length).filter (Sq34.surprising (h.desk k)))⟩) := if_neg (by omega)
      rw [est] at kQ
      refine kQ p H2 (D0.mono ((s1.trans sm).trans s2)) (s0.free ((s1.trans sm).free n2)) ?_
      rw [hp, nl_len, nl_is]
      rfl
end
end Pv
end
section
set_option maxRecDepth 100000
set_option maxHeartbeats 4000000
namespace Pv
open PySem PySem.Spec PyProof.Rows L2 PvR
theorem flat3 {α : Type} (f : α → List Nat) (hf : ∀ a, (f a).length = 3) : ∀ l : List α, (l.flatMap f).length = 3 * l.length
  | [] => rfl
  | a :: l => by
    rw [List.flatMap_cons, List.length_append, hf, flat3 f hf l, List.length_cons]
    omega
theorem flat_snoc {α : Type} (f : α → List Nat) (l : List α) (a : α) : (l ++ [a]).flatMap f = l.flatMap f ++ f a := by
  rw [List.flatMap_append]
  simp
theorem nl_app (l m : List Nat) : nl (l ++ m) = nl l ++ nl m := by unfold nl; rw [List.map_append]
theorem view_wf {l : List Sq28.Deed} (O : OkL l) (i cc aa : Nat) : Wf (Sq34.View.tree ⟨i, ⟨cc, aa⟩⟩ l) := by
  rw [view_tree O]
  exact ((O.take i).filter _).wf
section
variable {P : Program} {w : World} {K : PySem.W.Frag} {mg : Str → Option Value} {base : Heap} {c : Cl} {fR : Addr}
/-! ### tree_at -/
abbrev sTreeAt : Stmt := top 53
abbrev nTreeAt : List Str := ["desk", "numbers", "nodes", "found", "node", "depth", "label"]
theorem scTreeAt : FnScope nTreeAt ["desk", "numbers"] (defScope sTreeAt) := ⟨rfl, rfl, rfl, by decide +kernel, rfl, by decide +kernel, by decide +kernel⟩
def f3 (q : Trip) : List Nat := [q.1, q.2.1, q.2.2]
theorem d_treeAt (T : Txt K mg c fR) (D : DefAt K mg "tree_at" sTreeAt) (DT : DefX P w K mg base 7 "asked_tree" ["world", "numbers"] (spATree c)) (DB : Def P w K mg base CX0 2 "below_root" ["tree"] spBelow) :
    DefX P w K mg base 9 "tree_at" ["desk", "numbers"] (spDeed c (fun q : Nat × Nat × Nat × Nat => [q.1, q.2.1, q.2.2.1, q.2.2.2]) fun q => .as_ q.1 q.2.1 q.2.2.1 q.2.2.2) := by
  obtain ⟨f, fd, hm, F⟩ := D
  obtain ⟨fT, fdT, hmT, kT, bT, GT⟩ := DT
  obtain ⟨fB, fdB, hmB, kB, bB, GB⟩ := DB
  refine ⟨f, fd, hm, F.kp, F.binds (fun _ _ _ _ _ _ us hl => match us, hl with | [_, _], _ => rfl), F.okX scTreeAt (fun vs H Q E h => ?_) (fun cdv A outer s H vs Q E hr h => ?_)⟩
  · obtain ⟨H0, pd, pn, h, x, rfl, _⟩ := h
    rfl
  · obtain ⟨H0, pd, pn, h, ⟨k, i, cc, aa⟩, rfl, D, O, hpn, hlen, kF, kQ⟩ := h
    have D0 := D
    obtain ⟨s0, dd, pw, z, hpd, W, nd, new⟩ := D
    refine ⟨_, pss_cons (ps_set (i := 2) scTreeAt.nd rfl (Or.inl rfl) (pe_call GB (hr.mono (by decide)) rfl hmB kB bB .nil pass0 (pa_cons (pe_call (E := E) GT (hr.mono (by decide)) rfl hmT kT bT .nil (passes_call (takes_of rfl rfl rfl rfl) (fun _ _ _ _ h => h)) (pa_cons (pe_fld (pv 0) rfl) (pa_cons (pv 1) pa_nil))) pa_nil)))
      (pss_cons (ps_set (i := 3) scTreeAt.nd rfl (Or.inl rfl) (pe_lst (pa_cons (pe_callB call_len_seq (by rfl) T.len PySem.boot_len (pa_cons (pv 2) pa_nil)) pa_nil)))
      (pss_cons (ps_for (passes_of rfl) rfl (pi_list (pv 2)) (pg_tup rfl (pgs_cons (pg_name (i := 4) scTreeAt.nd rfl (Or.inl rfl)) (pgs_cons (pg_name (i := 5) scTreeAt.nd rfl (Or.inl rfl)) (pgs_cons (pg_name (i := 6) scTreeAt.nd rfl (Or.inl rfl)) pgs_nil))))
        (pss_one (ps_expr (pe_bm PySem.F.plainAttrs_list PySem.F.slot_list_extend PySem.F.type_list_extend mt_extend (pv 3) (pa_cons (pe_lst (pa_cons (pv 4) (pa_cons (pv 5) (pa_cons (pv 6) pa_nil)))) pa_nil)))))
      (pss_one (ps_ret (pv 3))))), ?_⟩
    refine ⟨_, rfl, pd, c.D, dd, _, _, rfl, hpd, T.clD, T.nWorld, dF_world pw, _, rfl, ?_⟩
    refine ⟨pw, pn, z, h, k, i, cc, aa, rfl, W, O, hpn, fun hk => kF _ (if_pos hk), fun hk hi => kF _ ((if_neg (by omega)).trans (if_pos hi)), fun hk hi pt H1 s1 n1 tr => ?_⟩
    have okk := O.desk (desk_mem hk)
    have est : h.step (.as_ k i cc aa) = (h, Sq34.told (Sq28.all (Sq34.View.tree ⟨i, ⟨cc, aa⟩⟩ (h.desk k)) Sq28.ROOT)) := (if_neg (by omega)).trans (if_neg (by omega))
    rw [told_eq] at est
    have hlen' : (((sub (Sq34.View.tree ⟨i, ⟨cc, aa⟩⟩ (h.desk k)) 1 0).flatMap f3).length) ≤ 10000000 := by
      have hlen : (h.step (.as_ k i cc aa)).2.out.length ≤ 10000000 := hlen
      rw [est] at hlen
      unfold Sq34.ints at hlen
      rw [List.length_map] at hlen
      exact hlen
    have fl := flat3 f3 (fun _ => rfl) (sub (Sq34.View.tree ⟨i, ⟨cc, aa⟩⟩ (h.desk k)) 1 0)
    have kQ' : ∀ p H', DAt c H0 H' pd h → H0 p = none → H' p = some (.lst (.int ((sub (Sq34.View.tree ⟨i, ⟨cc, aa⟩⟩ (h.desk k)) 1 0).length : Int) :: nl ((sub (Sq34.View.tree ⟨i, ⟨cc, aa⟩⟩ (h.desk k)) 1 0).flatMap f3))) → Q (.ref p) H' := fun p H' a b e => by
      have kQ : ∀ p H', DAt c H0 H' pd (h.step (.as_ k i cc aa)).1 → H0 p = none → H' p = some (.lst (((h.step (.as_ k i cc aa)).2.value :: (h.step (.as_ k i cc aa)).2.out).map V.int)) → Q (.ref p) H' := kQ
      rw [est] at kQ
      refine kQ p H' a b ?_
      rw [e, nl_is]
      rfl
    have wf := view_wf okk i cc aa
    generalize Sq34.View.tree ⟨i, ⟨cc, aa⟩⟩ (h.desk k) = t at *
    refine ⟨pt, t, rfl, tr, wf, by omega, fun pb H2 s2 n2 ⟨vF, hb, pF⟩ => ?_⟩
    have lF : vF.length = (sub t 1 0).length := pF.length
    refine ⟨_, rfl, pb, _, rfl, .inl (SqL.of hb), (by show 1 ≤ sizeLine; decide), fun pf nf => ?_⟩
    have s12 := s1.trans s2
    have s3 : Same H2 (upd H2 pf (.lst [.int (vF.length : Int)])) := same_upd nf
    refine ⟨_, rfl, pb, rfl, ⟨_, SqL.of (s3 _ _ hb)⟩, for_list (K := K) (a := pb) (xs := vF) (fun m σ H' => ∃ v4 v5 v6, σ = [some (.ref pd), some (.ref pn), some (.ref pb), some (.ref pf), v4, v5, v6] ∧ Same H2 H' ∧ H' pf = some (.lst (.int ((sub t 1 0).length : Int) :: nl (((sub t 1 0).take m).flatMap f3))))
      ⟨none, none, none, rfl, s3, by rw [upd_same, lF]; rfl⟩ (fun m σ H' _ ⟨_, _, _, _, sm, _⟩ => SqL.of (sm _ _ hb)) ?_ ?_⟩
    · rintro m y σ H' hy ⟨v4, v5, v6, rfl, sm, hpf⟩
      obtain ⟨q, hq, py, rfl, hpy⟩ := Paired.at_ pF hy
      refine ⟨py, _, rfl, SqT.of (sm _ _ hpy), rfl, _, _, rfl, _, _, rfl, _, _, rfl, rfl, ?_⟩
      refine ⟨_, rfl, .inl ⟨rfl, _, SqL.of hpf⟩, _, rfl, _, rfl, _, rfl, (by show 3 ≤ sizeLine; decide), fun pl npl => ?_⟩
      have s4 : Same H' (upd H' pl (.lst [.int (q.1 : Int), .int (q.2.1 : Int), .int (q.2.2 : Int)])) := same_upd npl
      have etk := take_more hq
      refine ⟨pf, pl, _, _, rfl, rfl, s4 _ _ hpf, upd_same, ?_, _, _, _, rfl, same_new (sm.trans s4) nf, ?_⟩
      · have e1 : ((sub t 1 0).take (m + 1)).flatMap f3 = ((sub t 1 0).take m).flatMap f3 ++ f3 q := by rw [etk, flat_snoc]
        have l1 := flat3 f3 (fun _ => rfl) ((sub t 1 0).take m)
        have l2 : ((sub t 1 0).take m).length ≤ (sub t 1 0).length := by rw [List.length_take]; exact Nat.min_le_right _ _
        refine Nat.le_trans ?_ (by decide : 10000004 ≤ sizeLine)
        show (nl (((sub t 1 0).take m).flatMap f3)).length + 1 + 3 ≤ 10000004
        rw [nl_len]
        omega
      · rw [upd_same, etk, flat_snoc, nl_app]
        rfl
    · rintro σ H' ⟨v4, v5, v6, rfl, sm, hpf⟩
      rw [lF, List.take_length] at hpf
      exact ⟨_, rfl, kQ' pf H' (D0.mono (s12.trans sm)) (s0.free (s12.free nf)) hpf⟩
/-! ### ancestors -/
abbrev sAnc : Stmt := top 54
theorem scAnc : FnScope ["desk", "numbers", "tree"] ["desk", "numbers"] (defScope sAnc) := ⟨rfl, rfl, rfl, by decide +kernel, rfl, by decide +kernel, by decide +kernel⟩
theorem at4 {a b d e n : Nat} {l : List Nat} : atI (nl (a :: b :: d :: e :: n :: l)) 4 = some (.int (n : Int)) := at_of (j := 4) rfl rfl
theorem d_anc (T : Txt K mg c fR) (D : DefAt K mg "ancestors" sAnc) (DT : DefX P w K mg base 7 "asked_tree" ["world", "numbers"] (spATree c)) (DA : DefX P w K mg base 2 "ask_there" ["tree", "node"] (spAskT c)) (DC : Def P w K mg base CX0 1 "counted" ["some"] spCounted) (DP : Def P w K mg base CX0 1 "path_of" ["tree", "node"] spPath) :
    DefX P w K mg base 9 "ancestors" ["desk", "numbers"] (spDeed c (fun q : Nat × Nat × Nat × Nat × Nat => [q.1, q.2.1, q.2.2.1, q.2.2.2.1, q.2.2.2.2]) fun q => .line q.1 q.2.1 q.2.2.1 q.2.2.2.1 q.2.2.2.2) := by
  obtain ⟨f, fd, hm, F⟩ := D
  obtain ⟨fT, fdT, hmT, kT, bT, GT⟩ := DT
  obtain ⟨fA, fdA, hmA, kA, bA, GA⟩ := DA
  obtain ⟨fC, fdC, hmC, kC, bC, GC⟩ := DC
  obtain ⟨fP, fdP, hmP, kP, bP, GP⟩ := DP
  refine ⟨f, fd, hm, F.kp, F.binds (fun _ _ _ _ _ _ us hl => match us, hl with | [_, _], _ => rfl), F.okX scAnc (fun vs H Q E h => ?_) (fun cdv A outer s H vs Q E hr h => ?_)⟩
  · obtain ⟨H0, pd, pn, h, x, rfl, _⟩ := h
    rfl
  · obtain ⟨H0, pd, pn, h, ⟨k, i, cc, aa, x⟩, rfl, D, O, hpn, hlen, kF, kQ⟩ := h
    have D0 := D
    obtain ⟨s0, dd, pw, z, hpd, W, nd, new⟩ := D
    refine ⟨_, pss_cons (ps_set (i := 2) scAnc.nd rfl (Or.inl rfl) (pe_call (E := E) GT (hr.mono (by decide)) rfl hmT kT bT .nil (passes_call (takes_of rfl rfl rfl rfl) (fun _ _ _ _ h => h)) (pa_cons (pe_fld (pv 0) rfl) (pa_cons (pe_slice sl_list (pv 1) po_none (po_some pe_int)) pa_nil))))
      (pss_cons (ps_expr (pe_call (E := E) GA (hr.mono (by decide)) rfl hmA kA bA .nil (passes_call (takes_of rfl rfl rfl rfl) (fun _ _ _ _ h => h)) (pa_cons (pv 2) (pa_cons (pe_ix ix_list (pv 1) pe_int (fun _ _ => rfl)) pa_nil))))
      (pss_one (ps_ret (pe_call GC (hr.mono (by decide)) rfl hmC kC bC .nil pass0 (pa_cons (pe_call GP (hr.mono (by decide)) rfl hmP kP bP .nil pass0 (pa_cons (pv 2) (pa_cons (pe_ix ix_list (pv 1) pe_int (fun _ _ => rfl)) pa_nil))) pa_nil))))), ?_⟩
    refine ⟨_, rfl, pd, c.D, dd, _, _, rfl, hpd, T.clD, T.nWorld, dF_world pw, _, rfl, 4, rfl, pn, _, rfl, SqL.of hpn, fun pm npm => ?_⟩
    have ecut : cutV (nl [k, i, cc, aa, x]) none (some 4) = nl [k, i, cc, aa] := cutV_to (k := 4)
    have s1 : Same H (upd H pm (.lst (cutV (nl [k, i, cc, aa, x]) none (some 4)))) := same_upd npm
    have hpm : (upd H pm (.lst (cutV (nl [k, i, cc, aa, x]) none (some 4)))) pm = some (.lst (nl [k, i, cc, aa])) := by rw [upd_same, ecut]
    generalize upd H pm (.lst (cutV (nl [k, i, cc, aa, x]) none (some 4))) = H1 at s1 hpm ⊢
    refine ⟨pw, pm, z, h, k, i, cc, aa, rfl, W.same s1, O, hpm, fun hk => (kF _ (if_pos hk)).mono s1, fun hk hi => (kF _ ((if_neg (by omega)).trans (if_pos hi))).mono s1, fun hk hi pt H2 s2 n2 tr => ?_⟩
    have okk := O.desk (desk_mem hk)
    have wf := view_wf okk i cc aa
    have est : h.step (.line k i cc aa x) = (if Sq28.there (Sq34.View.tree ⟨i, ⟨cc, aa⟩⟩ (h.desk k)) x = false then (h, Sq34.says (-3)) else (h, ⟨(Sq28.above (Sq34.View.tree ⟨i, ⟨cc, aa⟩⟩ (h.desk k)) x).length, Sq34.ints (Sq28.above (Sq34.View.tree ⟨i, ⟨cc, aa⟩⟩ (h.desk k)) x)⟩)) := (if_neg (by omega)).trans (if_neg (by omega))
    generalize Sq34.View.tree ⟨i, ⟨cc, aa⟩⟩ (h.desk k) = t at *
    have hpn2 := (s1.trans s2) _ _ hpn
    refine ⟨_, rfl, _, rfl, pn, _, 4, _, rfl, rfl, SqL.of hpn2, at4, pt, t, x, rfl, tr, wf, fun hy => ?_, fun hn => (kF _ (est.trans (if_pos hn))).mono (s1.trans s2)⟩
    obtain ⟨l, ul⟩ := (there_iff wf).mp hy
    have ea := above_up wf ul
    rw [if_neg (by rw [hy]; exact fun z => by cases z), ea] at est
    refine ⟨_, rfl, _, rfl, pn, _, 4, _, rfl, rfl, SqL.of hpn2, at4, pt, t, x, l, rfl, tr, wf, ul, fun pl H3 s3 n3 hpl => ?_⟩
    refine ⟨pl, _, rfl, hpl, ?_, fun p H4 s4 n4 hp => ?_⟩
    · rw [nl_len]
      have h1 := ul.len wf
      have h2 := wf.len
      omega
    have kQ : ∀ p H', DAt c H0 H' pd (h.step (.line k i cc aa x)).1 → H0 p = none → H' p = some (.lst (((h.step (.line k i cc aa x)).2.value :: (h.step (.line k i cc aa x)).2.out).map V.int)) → Q (.ref p) H' := kQ
    rw [est] at kQ
    have sA := (s1.trans s2).trans s3
    refine kQ p H4 (D0.mono (sA.trans s4)) (s0.free (sA.free n4)) ?_
    rw [hp, nl_len, nl_is]
    rfl
/-! ### moved_by -/
abbrev sMovedBy : Stmt := top 55
theorem scMovedBy : FnScope ["desk", "numbers", "done"] ["desk", "numbers"] (defScope sMovedBy) := ⟨rfl, rfl, rfl, by decide +kernel, rfl, by decide +kernel, by decide +kernel⟩
theorem d_movedBy (T : Txt K mg c fR) (D : DefAt K mg "moved_by" sMovedBy) (DV : DefX P w K mg base 3 "asked_view" ["world", "numbers"] (spAView c)) (DA : DefX P w K mg base 1 "ask" ["holds", "code"] (spAsk c)) (DD : Def P w K mg base CX0 6 "done_of" ["moves", "node"] (spDone c)) :
    DefX P w K mg base 9 "moved_by" ["desk", "numbers"] (spDeed c (fun q : Nat × Nat × Nat × Nat × Nat => [q.1, q.2.1, q.2.2.1, q.2.2.2.1, q.2.2.2.2]) fun q => .whose q.1 q.2.1 q.2.2.1 q.2.2.2.1 q.2.2.2.2) := by
  obtain ⟨f, fd, hm, F⟩ := D
  obtain ⟨fV, fdV, hmV, kV, bV, GV⟩ := DV
  obtain ⟨fA, fdA, hmA, kA, bA, GA⟩ := DA
  obtain ⟨fD, fdD, hmD, kD, bD, GD⟩ := DD
  refine ⟨f, fd, hm, F.kp, F.binds (fun _ _ _ _ _ _ us hl => match us, hl with | [_, _], _ => rfl), F.okX scMovedBy (fun vs H Q E h => ?_) (fun cdv A outer s H vs Q E hr h => ?_)⟩
  · obtain ⟨H0, pd, pn, h, x, rfl, _⟩ := h
    rfl
  · obtain ⟨H0, pd, pn, h, ⟨k, i, cc, aa, x⟩, rfl, D, O, hpn, hlen, kF, kQ⟩ := h
    have D0 := D
    obtain ⟨s0, dd, pw, z, hpd, W, nd, new⟩ := D
    refine ⟨_, pss_cons (ps_set (i := 2) scMovedBy.nd rfl (Or.inl rfl) (pe_call GD (hr.mono (by decide)) rfl hmD kD bD .nil pass0 (pa_cons (pe_call (E := E) GV (hr.mono (by decide)) rfl hmV kV bV .nil (passes_call (takes_of rfl rfl rfl rfl) (fun _ _ _ _ h => h)) (pa_cons (pe_fld (pv 0) rfl) (pa_cons (pe_slice sl_list (pv 1) po_none (po_some pe_int)) pa_nil))) (pa_cons (pe_ix ix_list (pv 1) pe_int (fun _ _ => rfl)) pa_nil))))
      (pss_cons (ps_expr (pe_call (E := E) GA (hr.mono (by decide)) rfl hmA kA bA .nil (passes_call (takes_of rfl rfl rfl rfl) (fun _ _ _ _ h => h)) (pa_cons (pe_cmpR (op_neNil hr) (pv 2) (pe_lst pa_nil) (nomark _)) (pa_cons (pe_num T.notThere) pa_nil))))
      (pss_one (ps_ret (pe_lst (pa_cons (pe_fld (pe_ix ix_list (pv 2) (pe_un un_neg pe_int) (fun _ _ => rfl)) rfl) (pa_cons (pe_fld (pe_ix ix_list (pv 2) (pe_un un_neg pe_int) (fun _ _ => rfl)) rfl) (pa_cons (pe_fld (pe_ix ix_list (pv 2) (pe_un un_neg pe_int) (fun _ _ => rfl)) rfl)
        (pa_cons (pe_fld (pe_ix ix_list (pv 2) (pe_un un_neg pe_int) (fun _ _ => rfl)) rfl) (pa_cons (pe_fld (pe_ix ix_list (pv 2) (pe_un un_neg pe_int) (fun _ _ => rfl)) rfl) pa_nil))))))))), ?_⟩
    refine ⟨_, rfl, pd, c.D, dd, _, _, rfl, hpd, T.clD, T.nWorld, dF_world pw, _, rfl, 4, rfl, pn, _, rfl, SqL.of hpn, fun pm npm => ?_⟩
    have ecut : cutV (nl [k, i, cc, aa, x]) none (some 4) = nl [k, i, cc, aa] := cutV_to (k := 4)
    have s1 : Same H (upd H pm (.lst (cutV (nl [k, i, cc, aa, x]) none (some 4)))) := same_upd npm
    have hpm : (upd H pm (.lst (cutV (nl [k, i, cc, aa, x]) none (some 4)))) pm = some (.lst (nl [k, i, cc, aa])) := by rw [upd_same, ecut]
    generalize upd H pm (.lst (cutV (nl [k, i, cc, aa, x]) none (some 4))) = H1 at s1 hpm ⊢
    refine ⟨pw, pm, z, h, k, i, cc, aa, rfl, W.same s1, O, hpm, fun hk => (kF _ (if_pos hk)).mono s1, fun hk hi => (kF _ ((if_neg (by omega)).trans (if_pos hi))).mono s1, fun hk hi pv H2 s2 n2 ml => ?_⟩
    have okk := O.desk (desk_mem hk)
    have est : h.step (.whose k i cc aa x) = (match Sq34.whose (Sq34.View.deeds ⟨i, ⟨cc, aa⟩⟩ (h.desk k)) x with
      | none => (h, Sq34.says (-3))
      | some d => (h, ⟨d.id, Sq34.ints [d.stamp.count, d.stamp.hand, d.under, d.label]⟩)) := (if_neg (by omega)).trans (if_neg (by omega))
    rw [view_deeds okk, whose_eq] at est
    have est : h.step (.whose k i cc aa x) = (match (doneBy (Sq34.sorted (viewOf (h.desk k) i cc aa)) x).getLast? with
      | none => (h, Sq34.says (-3))
      | some d => (h, ⟨d.id, Sq34.ints [d.stamp.count, d.stamp.hand, d.under, d.label]⟩)) := est
    have hpn2 := (s1.trans s2) _ _ hpn
    refine ⟨_, rfl, pn, _, 4, _, rfl, rfl, SqL.of hpn2, at4, pv, x, _, rfl, ml, (okk.take i).filter _, fun pq H3 s3 n3 ⟨vD, hq, mD⟩ => ?_⟩
    have sA := (s1.trans s2).trans s3
    generalize doneBy (Sq34.sorted (viewOf (h.desk k) i cc aa)) x = L at *
    refine ⟨_, rfl, Nat.zero_le _, fun pe npe => ?_⟩
    have s4 : Same H3 (upd H3 pe (.lst [])) := same_upd npe
    refine ⟨pq, pe, vD, rfl, rfl, SqL.of (s4 _ _ hq), SqL.of upd_same, _, _, rfl, fun e => ?_, fun e => ?_⟩
    · rcases List.eq_nil_or_concat vD with e0 | ⟨vD', y, e0⟩
      · rw [e0] at e
        cases e
      · rw [List.concat_eq_append] at e0
        subst e0
        have hlast : ∃ L' d, L = L' ++ [d] := by
          rcases List.eq_nil_or_concat L with e1 | ⟨L', d, e1⟩
          · subst e1
            have := mD.length
            simp at this
          · exact ⟨L', d, by rw [e1, List.concat_eq_append]⟩
        obtain ⟨L', d, rfl⟩ := hlast
        obtain ⟨vs2, y2, e2, _, ⟨am, dx, e3, ham⟩⟩ := Paired.unsnoc mD
        have ey : y = y2 := by
          have := congrArg List.getLast? e2
          simpa using this
        subst ey
        subst e3
        rw [List.getLast?_concat] at est
        have hq4 := s4 _ _ hq
        have ham4 := s4 _ _ ham
        have lst := atI_last vD' (V.ref am)
        generalize upd H3 pe (.lst []) = H4 at s4 hq4 ham4 ⊢
        refine ⟨_, rfl, _, rfl, pq, _, -1, _, rfl, rfl, SqL.of hq4, lst, am, c.M, dx, _, _, rfl, ham4, T.clM, T.nNumber, mF_number d, _, rfl, _, rfl, pq, _, -1, _, rfl, rfl, SqL.of hq4, lst, am, c.M, dx, _, _, rfl, ham4, T.clM, T.nCounter, mF_counter d,
          _, rfl, _, rfl, pq, _, -1, _, rfl, rfl, SqL.of hq4, lst, am, c.M, dx, _, _, rfl, ham4, T.clM, T.nOrigin, mF_origin d, _, rfl, _, rfl, pq, _, -1, _, rfl, rfl, SqL.of hq4, lst, am, c.M, dx, _, _, rfl, ham4, T.clM, T.nParent, mF_parent d,
          _, rfl, _, rfl, pq, _, -1, _, rfl, rfl, SqL.of hq4, lst, am, c.M, dx, _, _, rfl, ham4, T.clM, T.nLabel, mF_label d, (by show 5 ≤ sizeLine; decide), fun p np => ?_⟩
        have kQ : ∀ p H', DAt c H0 H' pd (h.step (.whose k i cc aa x)).1 → H0 p = none → H' p = some (.lst (((h.step (.whose k i cc aa x)).2.value :: (h.step (.whose k i cc aa x)).2.out).map V.int)) → Q (.ref p) H' := kQ
        rw [est] at kQ
        exact kQ p _ (D0.mono ((sA.trans s4).trans (same_upd np))) (s0.free ((sA.trans s4).free np)) upd_same
    · have e0 : vD = [] := by
        cases vD with
        | nil => rfl
        | cons a r => cases e
      subst e0
      have eL : L = [] := List.eq_nil_of_length_eq_zero mD.length.symm
      subst eL
      exact (kF _ est).mono (sA.trans s4)
end
end Pv
end
section
set_option maxRecDepth 100000
set_option maxHeartbeats 4000000
namespace Pv
open PySem PySem.Spec PyProof.Rows L2 PvR
section
variable {P : Program} {w : World} {K : PySem.W.Frag} {mg : Str → Option Value} {base : Heap} {c : Cl} {fR : Addr}
/-! ### differences -/
abbrev sDiff : Stmt := top 56
abbrev nDiff : List Str := ["desk", "numbers", "world", "replica", "one", "other"]
theorem scDiff : FnScope nDiff ["desk", "numbers"] (defScope sDiff) := ⟨rfl, rfl, rfl, by decide +kernel, rfl, by decide +kernel, by decide +kernel⟩
theorem at5 {a b d e g n : Nat} {l : List Nat} : atI (nl (a :: b :: d :: e :: g :: n :: l)) 5 = some (.int (n : Int)) := at_of (j := 5) rfl rfl
theorem at6 {a b d e g m n : Nat} {l : List Nat} : atI (nl (a :: b :: d :: e :: g :: m :: n :: l)) 6 = some (.int (n : Int)) := at_of (j := 6) rfl rfl
theorem d_diff (T : Txt K mg c fR) (D : DefAt K mg "differences" sDiff) (DT : DefX P w K mg base 7 "asked_tree" ["world", "numbers"] (spATree c)) (DK : DefX P w K mg base 2 "ask_known" ["world", "replica", "many"] (spAskK c)) (DTr : Def P w K mg base CX0 6 "tree_of" ["moves"] (spTree c))
    (DV : Def P w K mg base CX0 2 "view_moves" ["world", "replica", "many", "counter", "origin"] (spView c)) (DC : Def P w K mg base CX0 1 "counted" ["some"] spCounted) (DU : Def P w K mg base CX0 1 "unlike" ["one", "other"] spUnlike) :
    DefX P w K mg base 9 "differences" ["desk", "numbers"] (spDeed c (fun q : Nat × Nat × Nat × Nat × Nat × Nat × Nat => [q.1, q.2.1, q.2.2.1, q.2.2.2.1, q.2.2.2.2.1, q.2.2.2.2.2.1, q.2.2.2.2.2.2]) fun q => .between q.1 q.2.1 q.2.2.1 q.2.2.2.1 q.2.2.2.2.1 q.2.2.2.2.2.1 q.2.2.2.2.2.2) := by
  obtain ⟨f, fd, hm, F⟩ := D
  obtain ⟨fT, fdT, hmT, kT, bT, GT⟩ := DT
  obtain ⟨fK, fdK, hmK, kK, bK, GK⟩ := DK
  obtain ⟨fO, fdO, hmO, kO, bO, GO⟩ := DTr
  obtain ⟨fV, fdV, hmV, kV, bV, GV⟩ := DV
  obtain ⟨fC, fdC, hmC, kC, bC, GC⟩ := DC
  obtain ⟨fU, fdU, hmU, kU, bU, GU⟩ := DU
  refine ⟨f, fd, hm, F.kp, F.binds (fun _ _ _ _ _ _ us hl => match us, hl with | [_, _], _ => rfl), F.okX scDiff (fun vs H Q E h => ?_) (fun cdv A outer s H vs Q E hr h => ?_)⟩
  · obtain ⟨H0, pd, pn, h, x, rfl, _⟩ := h
    rfl
  · obtain ⟨H0, pd, pn, h, ⟨k, i, cc, aa, j, ee, bb⟩, rfl, D, O, hpn, hlen, kF, kQ⟩ := h
    have D0 := D
    obtain ⟨s0, dd, pw, z, hpd, W, nd, new⟩ := D
    refine ⟨_, pss_cons (ps_par (i := 2) (j := 3) (by rfl) scDiff.nd rfl rfl (by decide) rfl rfl (pa_cons (pe_fld (pv 0) rfl) (pa_cons (pe_ix ix_list (pv 1) pe_int (fun _ _ => rfl)) pa_nil)) (by rfl))
      (pss_cons (ps_set (i := 4) scDiff.nd rfl (Or.inl rfl) (pe_call (E := E) GT (hr.mono (by decide)) rfl hmT kT bT .nil (passes_call (takes_of rfl rfl rfl rfl) (fun _ _ _ _ h => h)) (pa_cons (pv 2) (pa_cons (pe_slice sl_list (pv 1) po_none (po_some pe_int)) pa_nil))))
      (pss_cons (ps_expr (pe_call (E := E) GK (hr.mono (by decide)) rfl hmK kK bK .nil (passes_call (takes_of rfl rfl rfl rfl) (fun _ _ _ _ h => h)) (pa_cons (pv 2) (pa_cons (pv 3) (pa_cons (pe_ix ix_list (pv 1) pe_int (fun _ _ => rfl)) pa_nil)))))
      (pss_cons (ps_set (i := 5) scDiff.nd rfl (Or.inl rfl) (pe_call GO (hr.mono (by decide)) rfl hmO kO bO .nil pass0 (pa_cons (pe_call GV (hr.mono (by decide)) rfl hmV kV bV .nil pass0 (pa_cons (pv 2) (pa_cons (pv 3) (pa_cons (pe_ix ix_list (pv 1) pe_int (fun _ _ => rfl)) (pa_cons (pe_ix ix_list (pv 1) pe_int (fun _ _ => rfl)) (pa_cons (pe_ix ix_list (pv 1) pe_int (fun _ _ => rfl)) pa_nil)))))) pa_nil)))
      (pss_one (ps_ret (pe_call GC (hr.mono (by decide)) rfl hmC kC bC .nil pass0 (pa_cons (pe_call GU (hr.mono (by decide)) rfl hmU kU bU .nil pass0 (pa_cons (pv 4) (pa_cons (pv 5) pa_nil))) pa_nil))))))), ?_⟩
    refine ⟨_, rfl, pd, c.D, dd, _, _, rfl, hpd, T.clD, T.nWorld, dF_world pw, _, rfl, pn, _, 0, _, rfl, rfl, SqL.of hpn, at0, _, _, rfl, ?_⟩
    refine ⟨_, rfl, _, rfl, 4, rfl, pn, _, rfl, SqL.of hpn, fun pm npm => ?_⟩
    have ecut : cutV (nl [k, i, cc, aa, j, ee, bb]) none (some 4) = nl [k, i, cc, aa] := cutV_to (k := 4)
    have s1 : Same H (upd H pm (.lst (cutV (nl [k, i, cc, aa, j, ee, bb]) none (some 4)))) := same_upd npm
    have hpm : (upd H pm (.lst (cutV (nl [k, i, cc, aa, j, ee, bb]) none (some 4)))) pm = some (.lst (nl [k, i, cc, aa])) := by rw [upd_same, ecut]
    generalize upd H pm (.lst (cutV (nl [k, i, cc, aa, j, ee, bb]) none (some 4))) = H1 at s1 hpm ⊢
    refine ⟨pw, pm, z, h, k, i, cc, aa, rfl, W.same s1, O, hpm, fun hk => (kF _ (if_pos hk)).mono s1, fun hk hi => (kF _ ((if_neg (by omega)).trans (if_pos hi))).mono s1, fun hk hi pt H2 s2 n2 tr => ?_⟩
    have okk := O.desk (desk_mem hk)
    have est : h.step (.between k i cc aa j ee bb) = (if (h.desk k).length < j then (h, Sq34.says (-1)) else (h, ⟨(Sq34.otherwise (Sq34.View.tree ⟨i, ⟨cc, aa⟩⟩ (h.desk k)) (Sq34.View.tree ⟨j, ⟨ee, bb⟩⟩ (h.desk k))).length, Sq34.ints (Sq34.otherwise (Sq34.View.tree ⟨i, ⟨cc, aa⟩⟩ (h.desk k)) (Sq34.View.tree ⟨j, ⟨ee, bb⟩⟩ (h.desk k)))⟩)) := (if_neg (by omega)).trans (if_neg (by omega))
    have s12 := s1.trans s2
    have hpn2 := s12 _ _ hpn
    refine ⟨_, rfl, _, rfl, _, rfl, pn, _, 4, _, rfl, rfl, SqL.of hpn2, at4, pw, z, h, k, j, rfl, W.same s12, hk, fun hj => ?_, fun hj => (kF _ (est.trans (if_pos hj))).mono s12⟩
    refine ⟨_, rfl, _, rfl, _, rfl, pn, _, 4, _, rfl, rfl, SqL.of hpn2, at4, _, rfl, pn, _, 5, _, rfl, rfl, SqL.of hpn2, at5, _, rfl, pn, _, 6, _, rfl, rfl, SqL.of hpn2, at6, pw, z, h, k, j, ee, bb, rfl, W.same s12, O, hk, fun pv H3 s3 n3 ml => ?_⟩
    refine ⟨pv, _, rfl, ml, (okk.take j).filter _, fun pu H4 s4 n4 tu => ?_⟩
    refine ⟨_, rfl, _, rfl, pt, pu, _, _, rfl, (tr.same s3).same s4, tu, fun pc H5 s5 n5 hpc => ?_⟩
    refine ⟨pc, _, rfl, hpc, ?_, fun p H6 s6 n6 hp => ?_⟩
    · rw [nl_len]
      refine Nat.le_trans (List.length_filter_le _ _) ?_
      rw [List.length_range]
      decide
    rw [if_neg (by omega), view_tree okk j] at est
    have kQ : ∀ p H', DAt c H0 H' pd (h.step (.between k i cc aa j ee bb)).1 → H0 p = none → H' p = some (.lst (((h.step (.between k i cc aa j ee bb)).2.value :: (h.step (.between k i cc aa j ee bb)).2.out).map V.int)) → Q (.ref p) H' := kQ
    rw [est] at kQ
    have sA := ((s12.trans s3).trans s4).trans s5
    refine kQ p H6 (D0.mono (sA.trans s6)) (s0.free (sA.free n6)) ?_
    rw [hp, nl_len, nl_is]
    rfl
/-! ### history -/
abbrev sHist : Stmt := top 57
abbrev nHist : List Str := ["desk", "numbers", "done", "found", "move"]
theorem scHist : FnScope nHist ["desk", "numbers"] (defScope sHist) := ⟨rfl, rfl, rfl, by decide +kernel, rfl, by decide +kernel, by decide +kernel⟩
def g3 (d : Sq28.Deed) : List Nat := [d.id, d.under, d.label]
theorem doneBy_len (l : List Sq28.Deed) (x : Nat) : (doneBy l x).length ≤ l.length := by
  unfold doneBy
  rw [List.length_map]
  refine Nat.le_trans (List.length_filter_le _ _) ?_
  rw [outcomes_len]
  exact Nat.le_refl _
theorem d_hist (T : Txt K mg c fR) (D : DefAt K mg "history" sHist) (DR : DefX P w K mg base 2 "ask_replica" ["world", "replica"] (spAskR c)) (DD : Def P w K mg base CX0 6 "done_of" ["moves", "node"] (spDone c)) :
    DefX P w K mg base 9 "history" ["desk", "numbers"] (spDeed c (fun q : Nat × Nat => [q.1, q.2]) fun q => .life q.1 q.2) := by
  obtain ⟨f, fd, hm, F⟩ := D
  obtain ⟨fR, fdR, hmR, kR, bR, GR⟩ := DR
  obtain ⟨fD, fdD, hmD, kD, bD, GD⟩ := DD
  refine ⟨f, fd, hm, F.kp, F.binds (fun _ _ _ _ _ _ us hl => match us, hl with | [_, _], _ => rfl), F.okX scHist (fun vs H Q E h => ?_) (fun cdv A outer s H vs Q E hr h => ?_)⟩
  · obtain ⟨H0, pd, pn, h, x, rfl, _⟩ := h
    rfl
  · obtain ⟨H0, pd, pn, h, ⟨k, x⟩, rfl, D, O, hpn, hlen, kF, kQ⟩ := h
    have D0 := D
    obtain ⟨s0, dd, pw, z, hpd, W, nd, new⟩ := D
    refine ⟨_, pss_cons (ps_expr (pe_call (E := E) GR (hr.mono (by decide)) rfl hmR kR bR .nil (passes_call (takes_of rfl rfl rfl rfl) (fun _ _ _ _ h => h)) (pa_cons (pe_fld (pv 0) rfl) (pa_cons (pe_ix ix_list (pv 1) pe_int (fun _ _ => rfl)) pa_nil))))
      (pss_cons (ps_set (i := 2) scHist.nd rfl (Or.inl rfl) (pe_call GD (hr.mono (by decide)) rfl hmD kD bD .nil pass0 (pa_cons (pe_ix ix_list (pe_fld (pe_fld (pv 0) rfl) rfl) (pe_ix ix_list (pv 1) pe_int (fun _ _ => rfl)) (fun _ _ => rfl)) (pa_cons (pe_ix ix_list (pv 1) pe_int (fun _ _ => rfl)) pa_nil))))
      (pss_cons (ps_set (i := 3) scHist.nd rfl (Or.inl rfl) (pe_lst (pa_cons (pe_callB call_len_seq (by rfl) T.len PySem.boot_len (pa_cons (pv 2) pa_nil)) pa_nil)))
      (pss_cons (ps_for (passes_of rfl) rfl (pi_list (pv 2)) (pg_name (i := 4) scHist.nd rfl (Or.inl rfl))
        (pss_one (ps_expr (pe_bm PySem.F.plainAttrs_list PySem.F.slot_list_extend PySem.F.type_list_extend mt_extend (pv 3) (pa_cons (pe_lst (pa_cons (pe_fld (pv 4) rfl) (pa_cons (pe_fld (pv 4) rfl) (pa_cons (pe_fld (pv 4) rfl) pa_nil)))) pa_nil)))))
      (pss_one (ps_ret (pv 3)))))), ?_⟩
    refine ⟨_, rfl, pd, c.D, dd, _, _, rfl, hpd, T.clD, T.nWorld, dF_world pw, _, rfl, pn, _, 0, _, rfl, rfl, SqL.of hpn, at0, ?_⟩
    refine ⟨pw, z, h, k, rfl, W, fun hk => ?_, fun hk => kF _ (if_pos hk)⟩
    obtain ⟨pk, e1, _, vsK, hpk, mk⟩ := W.desk hk
    have okk := O.desk (desk_mem hk)
    refine ⟨_, rfl, pd, c.D, dd, _, _, rfl, hpd, T.clD, T.nWorld, dF_world pw, pw, c.W, z.dx, _, _, rfl, W.w, T.clW, T.nLearned, wF_learned _ _, _, rfl, pn, _, 0, _, rfl, rfl, SqL.of hpn, at0, z.pl, _, (k : Int), _, rfl, rfl, SqL.of W.l, atI_nat e1,
      _, rfl, pn, _, 1, _, rfl, rfl, SqL.of hpn, at1, pk, x, _, rfl, ⟨vsK, hpk, mk⟩, okk, fun pq H1 s1 n1 ⟨vD, hq, mD⟩ => ?_⟩
    have est : h.step (.life k x) = (h, ⟨(Sq34.life (h.desk k) x).length, Sq34.ints ((Sq34.life (h.desk k) x).flatMap fun d => [d.id, d.under, d.label])⟩) := if_neg (by omega)
    rw [life_eq] at est
    have lL : (doneBy (Sq34.sorted (h.desk k)) x).length ≤ 80 := Nat.le_trans (doneBy_len _ _) okk.sorted.len
    generalize doneBy (Sq34.sorted (h.desk k)) x = L at *
    have lD : vD.length = L.length := mD.length
    refine ⟨_, rfl, pq, _, rfl, .inl (SqL.of hq), (by show 1 ≤ sizeLine; decide), fun pf nf => ?_⟩
    have s3 : Same H1 (upd H1 pf (.lst [.int (vD.length : Int)])) := same_upd nf
    refine ⟨_, rfl, pq, rfl, ⟨_, SqL.of (s3 _ _ hq)⟩, for_list (K := K) (a := pq) (xs := vD) (fun m σ H' => ∃ v4, σ = [some (.ref pd), some (.ref pn), some (.ref pq), some (.ref pf), v4] ∧ Same H1 H' ∧ H' pf = some (.lst (.int (L.length : Int) :: nl ((L.take m).flatMap g3))))
      ⟨none, rfl, s3, by rw [upd_same, lD]; rfl⟩ (fun m σ H' _ ⟨_, _, sm, _⟩ => SqL.of (sm _ _ hq)) ?_ ?_⟩
    · rintro m y σ H' hy ⟨v4, rfl, sm, hpf⟩
      obtain ⟨d, hd, am, dx, rfl, ham⟩ := Paired.at_ mD hy
      have ham' := sm _ _ ham
      refine ⟨_, rfl, .inl ⟨rfl, _, SqL.of hpf⟩, _, rfl, am, c.M, dx, _, _, rfl, ham', T.clM, T.nNumber, mF_number d, _, rfl, am, c.M, dx, _, _, rfl, ham', T.clM, T.nParent, mF_parent d, _, rfl, am, c.M, dx, _, _, rfl, ham', T.clM, T.nLabel, mF_label d, (by show 3 ≤ sizeLine; decide), fun pl npl => ?_⟩
      have s4 : Same H' (upd H' pl (.lst [.int (d.id : Int), .int (d.under : Int), .int (d.label : Int)])) := same_upd npl
      have etk := take_more hd
      refine ⟨pf, pl, _, _, rfl, rfl, s4 _ _ hpf, upd_same, ?_, _, rfl, same_new (sm.trans s4) nf, ?_⟩
      · have l1 := flat3 g3 (fun _ => rfl) (L.take m)
        have l2 : (L.take m).length ≤ L.length := by rw [List.length_take]; exact Nat.min_le_right _ _
        refine Nat.le_trans ?_ (by decide : 1000 ≤ sizeLine)
        show (nl ((L.take m).flatMap g3)).length + 1 + 3 ≤ 1000
        rw [nl_len]
        omega
      · rw [upd_same, etk, flat_snoc, nl_app]
        rfl
    · rintro σ H' ⟨v4, rfl, sm, hpf⟩
      rw [lD, List.take_length] at hpf
      have kQ : ∀ p H', DAt c H0 H' pd (h.step (.life k x)).1 → H0 p = none → H' p = some (.lst (((h.step (.life k x)).2.value :: (h.step (.life k x)).2.out).map V.int)) → Q (.ref p) H' := kQ
      rw [est] at kQ
      refine ⟨_, rfl, kQ pf H' (D0.mono (s1.trans sm)) (s0.free (s1.free nf)) ?_⟩
      rw [hpf, nl_is]
      rfl
end
end Pv
end
section
set_option maxRecDepth 100000
set_option maxHeartbeats 4000000
namespace Pv
open PySem PySem.Spec PyProof.Rows L2 PvR
theorem Paired.of_get {α β : Type} {F : α → β → Prop} : ∀ {xs : List α} {ys : List β}, xs.length = ys.length → (∀ (i : Nat) x y, xs[i]? = some x → ys[i]? = some y → F x y) → Paired F xs ys
  | [], [], _, _ => .nil
  | [], _ :: _, h, _ => by simp at h
  | _ :: _, [], h, _ => by simp at h
  | x :: xs, y :: ys, h, hf => .cons (hf 0 x y rfl rfl) (Paired.of_get (by simpa using h) fun i a b ha hb => hf (i + 1) a b (by simpa using ha) (by simpa using hb))
theorem MlAt.put {C : Addr} {H : Hp} {a pk : Addr} {l : List Sq28.Deed} {vs : List V} {o : HO} (hpk : H pk = some (.lst vs)) (ne : a ≠ pk) (h : MlAt C H a l) : MlAt C (upd H pk o) a l := by
  obtain ⟨xs, h1, h2⟩ := h
  exact ⟨xs, by rw [upd_ne ne]; exact h1, MvsAt.kp (Kp.upd hpk) h2⟩
/-- a replica's list is written -/
theorem WAt.put_desk {c : Cl} {H : Hp} {pw : Addr} {z : WPts} {h : Sq34.House} {k : Nat} {pk : Addr} {vs vs' : List V} {l' : List Sq28.Deed} (W : WAt c H pw z h) (nd : (z.pm :: z.pl :: z.pks).Nodup) (hk : z.pks[k]? = some pk) (hpk : H pk = some (.lst vs)) (mv : MvsAt c.M H vs' l') :
    WAt c (upd H pk (.lst vs')) pw z { h with desks := h.desks.set k l' } := by
  obtain ⟨n1, n2⟩ := List.nodup_cons.mp nd
  obtain ⟨n3, n4⟩ := List.nodup_cons.mp n2
  have hm : pk ∈ z.pks := List.mem_of_getElem? hk
  have d1 : z.pm ≠ pk := fun e => n1 (e ▸ List.mem_cons_of_mem _ hm)
  have d2 : z.pl ≠ pk := fun e => n3 (e ▸ hm)
  refine ⟨Kp.upd hpk _ _ W.w fun ys q => (by cases q), W.m.put hpk d1, by rw [upd_ne d2]; exact W.l, Paired.of_get (by simpa using W.len) fun i a l ha hl => ?_⟩
  by_cases e : i = k
  · subst e
    have ea : pk = a := by rw [hk] at ha; exact Option.some.inj ha
    subst ea
    have hl : (h.desks.set i l')[i]? = some l := hl
    have hlt : i < h.desks.length := by
      have := (List.getElem?_eq_some_iff.mp hl).1
      simpa using this
    rw [List.getElem?_set_self hlt] at hl
    have := Option.some.inj hl
    subst this
    exact ⟨vs', upd_same, MvsAt.kp (Kp.upd hpk) mv⟩
  · have hl : (h.desks.set k l')[i]? = some l := hl
    rw [List.getElem?_set_ne (Ne.symm e)] at hl
    obtain ⟨b, hb, ml⟩ := Paired.at2 W.k hl
    have : b = a := Option.some.inj (hb.symm.trans ha)
    subst this
    exact ml.put hpk fun q => e (nd_ix n4 ha (q ▸ hk))
/-- a move more -/
theorem WAt.put_move {c : Cl} {H : Hp} {pw : Addr} {z : WPts} {h : Sq34.House} {ms : List V} {v : V} {d : Sq28.Deed} (W : WAt c H pw z h) (nd : (z.pm :: z.pl :: z.pks).Nodup) (hm : H z.pm = some (.lst ms)) (mm : MvsAt c.M H ms h.all) (mv : MvAt c.M H v d) :
    WAt c (upd H z.pm (.lst (ms ++ [v]))) pw z ⟨h.all ++ [d], h.desks⟩ := by
  obtain ⟨n1, n2⟩ := List.nodup_cons.mp nd
  have d2 : z.pl ≠ z.pm := fun e => n1 (e ▸ List.mem_cons_self)
  refine ⟨Kp.upd hm _ _ W.w fun ys q => (by cases q), ⟨_, upd_same, MvsAt.kp (Kp.upd hm) (Paired.app mm (.cons mv .nil))⟩, by rw [upd_ne d2]; exact W.l, Paired.of_get W.len fun i a l ha hl => ?_⟩
  obtain ⟨b, hb, ml⟩ := Paired.at2 W.k hl
  have : b = a := Option.some.inj (hb.symm.trans ha)
  subst this
  exact ml.put hm fun q => n1 (q ▸ List.mem_cons_of_mem _ (List.mem_of_getElem? ha))
section
variable {P : Program} {w : World} {K : PySem.W.Frag} {mg : Str → Option Value} {base : Heap} {c : Cl} {fR : Addr}
/-- the world's class makes worlds -/
def DefW (P : Program) (w : World) (K : PySem.W.Frag) (mg : Str → Option Value) (base : Heap) (c : Cl) : Prop := ∃ f fd, Mk K c.W f ∧ Binds K fd ["self", "replicas"] [] ∧ FnOk P w K mg base CX0 1 f fd ["self", "replicas"] (spWorld c)
def DefM (P : Program) (w : World) (K : PySem.W.Frag) (mg : Str → Option Value) (base : Heap) (c : Cl) : Prop := ∃ f fd, Mk K c.M f ∧ Binds K fd ["self", "number", "counter", "origin", "node", "parent", "label"] [] ∧ FnOk P w K mg base CX0 1 f fd ["self", "number", "counter", "origin", "node", "parent", "label"] (spMove c)
/-! ### Desk -/
abbrev sDesk : Stmt := inClass (top 47) 0
theorem scDesk : FnScope ["self"] ["self"] (defScope sDesk) := ⟨rfl, rfl, rfl, by decide +kernel, rfl, by decide +kernel, by decide +kernel⟩
def spDesk (c : Cl) : Sp := fun vs H Q _ => ∃ p dx, vs = [.ref p] ∧ H p = some (.ins c.D dx []) ∧
  ∀ H' pw z, H' p = some (.ins c.D dx (dF pw)) → WAt c H' pw z Sq34.fresh → (z.pm :: z.pl :: z.pks).Nodup → (∀ b ∈ pw :: z.pm :: z.pl :: z.pks, H b = none) → (∀ b o, H b = some o → b ≠ p → H' b = some o) → Q .non H'
theorem ok_desk {f : Addr} {fd : FuncData} (F : Fun K "__init__" "Desk.__init__" sDesk f fd) (T : Txt K mg c fR) (DW : DefW P w K mg base c) : FnOk P w K mg base CX0 3 f fd ["self"] (spDesk c) := by
  obtain ⟨fW, fdW, MW, bW, GW⟩ := DW
  refine F.ok scDesk (fun vs H Q E h => ?_) (fun cdv A outer s H vs Q E hr h => ?_)
  · obtain ⟨p, dx, rfl, _⟩ := h
    rfl
  · obtain ⟨p, dx, rfl, hp, k⟩ := h
    refine ⟨_, pss_one (ps_fld (pv 0) (pe_make MW GW hr rfl T.gW bW .nil pass0 (pa_cons pe_int pa_nil)) rfl), ?_⟩
    intro x dw nx ndw ne
    refine ⟨x, dw, 1, rfl, by decide, upd_same, fun H1 z W1 nd new keep => ⟨rfl, ?_⟩⟩
    have s1 : Same H H1 := Same.made nx ndw keep
    have hp1 := s1 _ _ hp
    refine ⟨_, rfl, p, c.D, dx, _, rfl, hp1, T.clD, T.nWorld, by decide, ?_⟩
    have newH : ∀ b ∈ x :: z.pm :: z.pl :: z.pks, H b = none := fun b hb => by
      rcases List.mem_cons.mp hb with e | hb
      · rw [e]; exact nx
      · have n := new b hb
        by_cases e1 : b = x
        · rw [e1, upd_same] at n; cases n
        · rw [upd_ne e1] at n
          by_cases e2 : b = dw
          · rw [e2]; exact ndw
          · rw [upd_ne e2] at n; exact n
    have ne_p : ∀ b ∈ x :: z.pm :: z.pl :: z.pks, b ≠ p := fun b hb e => by
      have := newH b hb
      rw [e, hp] at this
      cases this
    refine k _ x z ?_ ?_ nd newH ?_
    · exact Eq.trans upd_same (congrArg (fun q => some (HO.ins c.D dx q)) rfl)
    · obtain ⟨w1, ⟨ms, w2, w3⟩, w4, w5⟩ := W1
      have kp : ∀ b ∈ x :: z.pm :: z.pl :: z.pks, (upd H1 p (.ins c.D dx (putF "world" (.ref x) []))) b = H1 b := fun b hb => upd_ne (ne_p b hb)
      cases w3
      refine ⟨by rw [kp x List.mem_cons_self]; exact w1, ⟨[], by rw [kp _ (by simp)]; exact w2, .nil⟩, by rw [kp _ (by simp)]; exact w4, Paired.of_get w5.length fun i a l ha hl => ?_⟩
      obtain ⟨b, hb, vs, m1, m2⟩ := Paired.at2 w5 hl
      have : b = a := Option.some.inj (hb.symm.trans ha)
      subst this
      have el : l = [] := by
        have := List.mem_of_getElem? hl
        exact List.mem_singleton.mp this
      subst el
      cases m2
      exact ⟨[], by rw [kp b (by simp [List.mem_of_getElem? ha])]; exact m1, .nil⟩
    · intro b o e hb
      rw [upd_ne hb]
      exact s1 _ _ e
/-! ### begin -/
abbrev sBegin : Stmt := top 49
theorem scBegin : FnScope ["desk", "numbers"] ["desk", "numbers"] (defScope sBegin) := ⟨rfl, rfl, rfl, by decide +kernel, rfl, by decide +kernel, by decide +kernel⟩
theorem d_begin (T : Txt K mg c fR) (D : DefAt K mg "begin" sBegin) (DA : DefX P w K mg base 1 "ask" ["holds", "code"] (spAsk c)) (DW : DefW P w K mg base c) :
    DefX P w K mg base 9 "begin" ["desk", "numbers"] (spDeed c (fun n : Nat => [n]) fun n => .begin_ n) := by
  obtain ⟨f, fd, hm, F⟩ := D
  obtain ⟨fA, fdA, hmA, kA, bA, GA⟩ := DA
  obtain ⟨fW, fdW, MW, bW, GW⟩ := DW
  refine ⟨f, fd, hm, F.kp, F.binds (fun _ _ _ _ _ _ us hl => match us, hl with | [_, _], _ => rfl), F.okX scBegin (fun vs H Q E h => ?_) (fun cdv A outer s H vs Q E hr h => ?_)⟩
  · obtain ⟨H0, pd, pn, h, x, rfl, _⟩ := h
    rfl
  · obtain ⟨H0, pd, pn, h, n, rfl, D, O, hpn, hlen, kF, kQ⟩ := h
    have D0 := D
    obtain ⟨s0, dd, pw, z, hpd, W, nd, new⟩ := D
    refine ⟨_, pss_cons (ps_expr (pe_call (E := E) GA (hr.mono (by decide)) rfl hmA kA bA .nil (passes_call (takes_of rfl rfl rfl rfl) (fun _ _ _ _ h => h)) (pa_cons (pe_and (pe_cmpR op_le pe_int (pe_ix ix_list (pv 1) pe_int (fun _ _ => rfl)) (nomark _)) (pe_one (pe_cmpR op_le (pe_ix ix_list (pv 1) pe_int (fun _ _ => rfl)) (pe_num T.mostRep) (nomark _)))) (pa_cons (pe_num T.outRange) pa_nil))))
      (pss_cons (ps_fld (pv 0) (pe_make MW GW (hr.mono (by decide)) rfl T.gW bW .nil pass0 (pa_cons (pe_ix ix_list (pv 1) pe_int (fun _ _ => rfl)) pa_nil)) rfl)
      (pss_one (ps_ret (pe_lst (pa_cons pe_int pa_nil))))), ?_⟩
    have bad : ¬ (1 ≤ n ∧ n ≤ 8) → Refuse c E H (-1) := fun hb => kF _ (if_pos (by show n = 0 ∨ 8 < n; omega))
    refine ⟨_, rfl, pn, _, 0, _, rfl, rfl, SqL.of hpn, at0, _, _, rfl, rfl, _, rfl, ?_⟩
    by_cases h1 : (1 : Int) ≤ (n : Int)
    · refine if_true_of (decide_eq_true h1) ⟨_, rfl, pn, _, 0, _, rfl, rfl, SqL.of hpn, at0, _, _, rfl, rfl, _, _, rfl, fun e => ?_, fun e => bad ?_⟩
      · have h8 : n ≤ 8 := by
          have := of_decide_eq_true e
          omega
        refine ⟨_, rfl, pn, _, 0, _, rfl, rfl, SqL.of hpn, at0, ?_⟩
        intro x dw nx ndw ne
        refine ⟨x, dw, n, rfl, by omega, upd_same, fun H1 z' W1 nd' new' keep => ⟨rfl, ?_⟩⟩
        have s1 : Same H H1 := Same.made nx ndw keep
        have hpd1 := s1 _ _ hpd
        refine ⟨_, rfl, pd, c.D, dd, _, rfl, hpd1, T.clD, T.nWorld, by show 1 < 1000; decide, ?_⟩
        refine ⟨(by show 1 ≤ sizeLine; decide), fun p np => ?_⟩
        have newH : ∀ b ∈ x :: z'.pm :: z'.pl :: z'.pks, H b = none := fun b hb => by
          rcases List.mem_cons.mp hb with e | hb
          · rw [e]; exact nx
          · have n := new' b hb
            by_cases e1 : b = x
            · rw [e1, upd_same] at n; cases n
            · rw [upd_ne e1] at n
              by_cases e2 : b = dw
              · rw [e2]; exact ndw
              · rw [upd_ne e2] at n; exact n
        have ne_p : ∀ b ∈ x :: z'.pm :: z'.pl :: z'.pks, b ≠ pd := fun b hb e => by
          have := newH b hb
          rw [e, hpd] at this
          cases this
        have est : h.step (.begin_ n) = (⟨[], List.replicate n []⟩, Sq34.says 0) := if_neg (by show ¬ (n = 0 ∨ 8 < n); omega)
        rw [est] at kQ
        have npd0 : H0 pd = none := new pd List.mem_cons_self
        have e1 : (upd H1 pd (.ins c.D dd (putF "world" (.ref x) (dF pw)))) = upd H1 pd (.ins c.D dd (dF x)) := by rw [dF_put]
        rw [e1] at np ⊢
        have DN : DAt c H0 (upd H1 pd (.ins c.D dd (dF x))) pd ⟨[], List.replicate n []⟩ := by
          refine ⟨same_new (s0.trans s1) npd0, dd, x, z', upd_same, ?_, nd', fun b hb => ?_⟩
          · obtain ⟨w1, ⟨ms, w2, w3⟩, w4, w5⟩ := W1
            have kp : ∀ b ∈ x :: z'.pm :: z'.pl :: z'.pks, (upd H1 pd (.ins c.D dd (dF x))) b = H1 b := fun b hb => upd_ne (ne_p b hb)
            cases w3
            refine ⟨by rw [kp x List.mem_cons_self]; exact w1, ⟨[], by rw [kp _ (by simp)]; exact w2, .nil⟩, by rw [kp _ (by simp)]; exact w4, Paired.of_get w5.length fun i a l ha hl => ?_⟩
            obtain ⟨b, hb, vs, m1, m2⟩ := Paired.at2 w5 hl
            have : b = a := Option.some.inj (hb.symm.trans ha)
            subst this
            have el : l = [] := by
              have := List.mem_of_getElem? hl
              exact (List.mem_replicate.mp this).2
            subst el
            cases m2
            exact ⟨[], by rw [kp b (by simp [List.mem_of_getElem? ha])]; exact m1, .nil⟩
          · rcases List.mem_cons.mp hb with e | hb
            · rw [e]; exact npd0
            · exact s0.free (newH b hb)
        have np1 : H0 p = none := (same_new (s0.trans s1) npd0).free np
        exact kQ p _ (DN.mono (same_upd np)) np1 upd_same
      · have := of_decide_eq_false e
        omega
    · exact if_false_of (decide_eq_false h1) ⟨_, _, rfl, fun e => (by cases e), fun e => bad (by omega)⟩
end
end Pv
end
section
set_option maxRecDepth 100000
set_option maxHeartbeats 4000000
namespace Pv
open PySem PySem.Spec PyProof.Rows L2 PvR
theorem met_desk1 {h : Sq34.House} (O : Ok h) {k j : Nat} (hk : k < h.desks.length) (hj : j < h.desks.length) : (met h k j).desk k = h.desk k ++ news h k j := by
  have e1 := desk_set (h := { h with desks := h.desks.set k (h.desk k ++ news h k j) }) (k := j) (l := h.desk j ++ news h j k) (by simpa using hj) k
  show Sq34.House.desk { h with desks := (h.desks.set k (h.desk k ++ news h k j)).set j (h.desk j ++ news h j k) } k = _
  rw [e1]
  split
  · rename_i e
    subst e
    rfl
  · rw [desk_set hk, if_pos rfl]
theorem met_desk2 {h : Sq34.House} (O : Ok h) {k j : Nat} (hk : k < h.desks.length) (hj : j < h.desks.length) : (met h k j).desk j = h.desk j ++ news h j k := by
  have e1 := desk_set (h := { h with desks := h.desks.set k (h.desk k ++ news h k j) }) (k := j) (l := h.desk j ++ news h j k) (by simpa using hj) j
  show Sq34.House.desk { h with desks := (h.desks.set k (h.desk k ++ news h k j)).set j (h.desk j ++ news h j k) } j = _
  rw [e1, if_pos rfl]
section
variable {P : Program} {w : World} {K : PySem.W.Frag} {mg : Str → Option Value} {base : Heap} {c : Cl} {fR : Addr}
/-! ### move_made -/
abbrev sMade : Stmt := top 50
abbrev nMade : List Str := ["desk", "numbers", "world", "replica", "node", "parent", "label", "move"]
theorem scMade : FnScope nMade ["desk", "numbers"] (defScope sMade) := ⟨rfl, rfl, rfl, by decide +kernel, rfl, by decide +kernel, by decide +kernel⟩
theorem d_made (T : Txt K mg c fR) (D : DefAt K mg "move_made" sMade) (DA : DefX P w K mg base 1 "ask" ["holds", "code"] (spAsk c)) (DR : DefX P w K mg base 2 "ask_replica" ["world", "replica"] (spAskR c)) (DP : DefX P w K mg base 2 "ask_place" ["node", "parent", "label"] (spAskP c)) (DM : DefM P w K mg base c)
    (DN : Def P w K mg base CX0 1 "next_counter" ["world", "replica"] (spNext c)) (DS : Def P w K mg base CX0 5 "result_of" ["moves"] (spResult c)) :
    DefX P w K mg base 9 "move_made" ["desk", "numbers"] (spDeed c (fun q : Nat × Nat × Nat × Nat => [q.1, q.2.1, q.2.2.1, q.2.2.2]) fun q => .move q.1 q.2.1 q.2.2.1 q.2.2.2) := by
  obtain ⟨f, fd, hm, F⟩ := D
  obtain ⟨fA, fdA, hmA, kA, bA, GA⟩ := DA
  obtain ⟨fR, fdR, hmR, kR, bR, GR⟩ := DR
  obtain ⟨fP, fdP, hmP, kP, bP, GP⟩ := DP
  obtain ⟨fM, fdM, MM, bM, GM⟩ := DM
  obtain ⟨fN, fdN, hmN, kN, bN, GN⟩ := DN
  obtain ⟨fS, fdS, hmS, kS, bS, GS⟩ := DS
  refine ⟨f, fd, hm, F.kp, F.binds (fun _ _ _ _ _ _ us hl => match us, hl with | [_, _], _ => rfl), F.okX scMade (fun vs H Q E h => ?_) (fun cdv A outer s H vs Q E hr h => ?_)⟩
  · obtain ⟨H0, pd, pn, h, x, rfl, _⟩ := h
    rfl
  · obtain ⟨H0, pd, pn, h, ⟨k, x, u, v⟩, rfl, D, O, hpn, hlen, kF, kQ⟩ := h
    have D0 := D
    obtain ⟨s0, dd, pw, z, hpd, W, nd, new⟩ := D
    have kQ : ∀ p H', DAt c H0 H' pd (h.step (.move k x u v)).1 → H0 p = none → H' p = some (.lst (((h.step (.move k x u v)).2.value :: (h.step (.move k x u v)).2.out).map V.int)) → Q (.ref p) H' := kQ
    have kF : ∀ zc, h.step (.move k x u v) = (h, Sq34.says zc) → Refuse c E H zc := kF
    refine ⟨_, pss_cons (ps_set (i := 2) scMade.nd rfl (Or.inl rfl) (pe_fld (pv 0) rfl))
      (pss_cons (ps_asg (pv 1) (pg_unl rfl (pgs_cons (pg_name (i := 3) scMade.nd rfl (Or.inl rfl)) (pgs_cons (pg_name (i := 4) scMade.nd rfl (Or.inl rfl)) (pgs_cons (pg_name (i := 5) scMade.nd rfl (Or.inl rfl)) (pgs_cons (pg_name (i := 6) scMade.nd rfl (Or.inl rfl)) pgs_nil))))))
      (pss_cons (ps_expr (pe_call (E := E) GR (hr.mono (by decide)) rfl hmR kR bR .nil (passes_call (takes_of rfl rfl rfl rfl) (fun _ _ _ _ h => h)) (pa_cons (pv 2) (pa_cons (pv 3) pa_nil))))
      (pss_cons (ps_expr (pe_call (E := E) GP (hr.mono (by decide)) rfl hmP kP bP .nil (passes_call (takes_of rfl rfl rfl rfl) (fun _ _ _ _ h => h)) (pa_cons (pv 4) (pa_cons (pv 5) (pa_cons (pv 6) pa_nil)))))
      (pss_cons (ps_expr (pe_call (E := E) GA (hr.mono (by decide)) rfl hmA kA bA .nil (passes_call (takes_of rfl rfl rfl rfl) (fun _ _ _ _ h => h)) (pa_cons (pe_cmpR op_lt (pe_callB call_len_seq (by rfl) T.len PySem.boot_len (pa_cons (pe_fld (pv 2) rfl) pa_nil)) (pe_num T.mostMov) (nomark _)) (pa_cons (pe_num T.full) pa_nil))))
      (pss_cons (ps_set (i := 7) scMade.nd rfl (Or.inl rfl) (pe_make MM GM (hr.mono (by decide)) rfl T.gM bM .nil pass0 (pa_cons (pe_callB call_len_seq (by rfl) T.len PySem.boot_len (pa_cons (pe_fld (pv 2) rfl) pa_nil))
        (pa_cons (pe_call GN (hr.mono (by decide)) rfl hmN kN bN .nil pass0 (pa_cons (pv 2) (pa_cons (pv 3) pa_nil))) (pa_cons (pv 3) (pa_cons (pv 4) (pa_cons (pv 5) (pa_cons (pv 6) pa_nil))))))))
      (pss_cons (ps_expr (pe_bm PySem.F.plainAttrs_list PySem.F.slot_list_append PySem.F.type_list_append mt_append (pe_fld (pv 2) rfl) (pa_cons (pv 7) pa_nil)))
      (pss_cons (ps_expr (pe_bm PySem.F.plainAttrs_list PySem.F.slot_list_append PySem.F.type_list_append mt_append (pe_ix ix_list (pe_fld (pv 2) rfl) (pv 3) (fun _ _ => rfl)) (pa_cons (pv 7) pa_nil)))
      (pss_one (ps_ret (pe_lst (pa_cons (pe_fld (pv 7) rfl) (pa_cons (pe_fld (pv 7) rfl) (pa_cons (pe_ix ix_list (pe_ix ix_tup (pe_call GS (hr.mono (by decide)) rfl hmS kS bS .nil pass0 (pa_cons (pe_ix ix_list (pe_fld (pv 2) rfl) (pv 3) (fun _ _ => rfl)) pa_nil)) pe_int (fun _ _ => rfl)) (pe_un un_neg pe_int) (fun _ _ => rfl)) pa_nil)))))))))))))
      , ?_⟩
    refine ⟨_, rfl, pd, c.D, dd, _, _, rfl, hpd, T.clD, T.nWorld, dF_world pw, ?_⟩
    refine ⟨_, rfl, pn, _, rfl, SqL.of hpn, rfl, _, _, rfl, _, _, rfl, _, _, rfl, _, _, rfl, rfl, ?_⟩
    refine ⟨_, rfl, _, rfl, pw, z, h, k, rfl, W, fun hk => ?_, fun hk => kF _ (if_pos hk)⟩
    have eLab : Sq28.LABEL = 1000000000 := by decide
    refine ⟨_, rfl, _, rfl, _, rfl, x, u, v, rfl, fun hp => ?_, fun hp => kF _ ((if_neg (by omega)).trans (if_pos (by show x < 2 ∨ 64 ≤ x ∨ 64 ≤ u ∨ Sq28.LABEL < v; rw [eLab]; omega)))⟩
    obtain ⟨hx2, hx64, hu64, hv⟩ := hp
    obtain ⟨ms, hms, mm⟩ := W.m
    have lM : ms.length = h.all.length := mm.length
    have est0 : h.step (.move k x u v) = (if 80 ≤ h.all.length then (h, Sq34.says (-5)) else (Sq34.House.learns ⟨h.all ++ [made h k x u v], h.desks⟩ k (made h k x u v), ⟨(made h k x u v).id, Sq34.ints [(made h k x u v).stamp.count, Sq28.outcome (Sq28.treeOf (Sq34.sorted (h.desk k))) (made h k x u v)]⟩)) :=
      (if_neg (by omega)).trans (if_neg (by show ¬ (x < 2 ∨ 64 ≤ x ∨ 64 ≤ u ∨ Sq28.LABEL < v); rw [eLab]; omega))
    refine ⟨_, rfl, pw, c.W, z.dx, _, _, rfl, W.w, T.clW, T.nMoves, wF_moves _ _, z.pm, _, rfl, .inl (SqL.of hms), _, _, rfl, rfl, _, _, rfl, fun e => ?_, fun e => kF _ (est0.trans (if_pos (by have := of_decide_eq_false e; omega)))⟩
    have h80 : h.all.length < 80 := by
      have := of_decide_eq_true e
      omega
    rw [if_neg (by omega), moved_eq O] at est0
    -- Move(..)
    refine ⟨_, rfl, pw, c.W, z.dx, _, _, rfl, W.w, T.clW, T.nMoves, wF_moves _ _, z.pm, _, rfl, .inl (SqL.of hms), _, rfl, _, rfl, pw, z, h, k, rfl, W, O, hk, fun H1 s1 => ?_⟩
    refine ⟨_, rfl, _, rfl, _, rfl, _, rfl, ?_⟩
    intro p dx np ndx ne
    refine ⟨p, dx, made h k x u v, by rw [lM]; rfl, upd_same, fun H2 hp2 keep => ⟨rfl, ?_⟩⟩
    have s2 : Same H1 H2 := Same.made np ndx keep
    have s12 := s1.trans s2
    have W2 := W.same s12
    have hms2 := s12 _ _ hms
    have mm2 := mm.same s12
    have mv2 : MvAt c.M H2 (.ref p) (made h k x u v) := ⟨p, dx, rfl, hp2⟩
    -- world.moves.append(move)
    refine ⟨_, rfl, pw, c.W, z.dx, _, _, rfl, W2.w, T.clW, T.nMoves, wF_moves _ _, .inl ⟨rfl, _, SqL.of hms2⟩, _, rfl, z.pm, _, _, rfl, rfl, hms2, ?_, ?_⟩
    · rw [lM]
      exact Nat.lt_trans h80 (by decide)
    have W3 := WAt.put_move W2 nd hms2 mm2 mv2
    have mv3 : MvAt c.M (upd H2 z.pm (.lst (ms ++ [.ref p]))) (.ref p) (made h k x u v) := MvAt.kp (Kp.upd hms2) mv2
    have kp3 : Kp H2 (upd H2 z.pm (.lst (ms ++ [.ref p]))) := Kp.upd hms2
    have n1 : H0 z.pm = none := new _ (by simp)
    have s03 : Same H0 (upd H2 z.pm (.lst (ms ++ [.ref p]))) := same_new (s0.trans s12) n1
    generalize upd H2 z.pm (.lst (ms ++ [.ref p])) = H3 at W3 mv3 kp3 s03 ⊢
    -- world.learned[replica].append(move)
    obtain ⟨pk, e1, ek, vsK, hpk, mk⟩ := W3.desk (k := k) hk
    have mk : MvsAt c.M H3 vsK (h.desk k) := mk
    have okk := O.desk (desk_mem hk)
    have n2 : H0 pk = none := new _ (by simp [List.mem_of_getElem? ek])
    refine ⟨_, rfl, pw, c.W, z.dx, _, _, rfl, W3.w, T.clW, T.nLearned, wF_learned _ _, _, rfl, z.pl, _, (k : Int), _, rfl, rfl, SqL.of W3.l, atI_nat e1, .inl ⟨rfl, _, SqL.of hpk⟩, _, rfl, pk, _, _, rfl, rfl, hpk, ?_, ?_⟩
    · rw [mk.length]
      exact Nat.lt_of_le_of_lt okk.len (by decide)
    have W4 := WAt.put_desk W3 nd ek hpk (Paired.app mk (.cons mv3 .nil))
    have W4 : WAt c (upd H3 pk (.lst (vsK ++ [.ref p]))) pw z (moved h k x u v) := W4
    have kp4 : Kp H3 (upd H3 pk (.lst (vsK ++ [.ref p]))) := Kp.upd hpk
    have s04 : Same H0 (upd H3 pk (.lst (vsK ++ [.ref p]))) := same_new s03 n2
    have hpd4 := kp4 _ _ (kp3 _ _ (s12 _ _ hpd) fun ys q => (by cases q)) fun ys q => (by cases q)
    have D4 : DAt c H0 (upd H3 pk (.lst (vsK ++ [.ref p]))) pd (moved h k x u v) := ⟨s04, dd, pw, z, hpd4, W4, nd, new⟩
    have mv4 := MvAt.kp kp4 mv3
    have ml4 : MlAt c.M (upd H3 pk (.lst (vsK ++ [.ref p]))) pk (h.desk k ++ [made h k x u v]) := ⟨_, upd_same, MvsAt.kp kp4 (Paired.app mk (.cons mv3 .nil))⟩
    generalize upd H3 pk (.lst (vsK ++ [.ref p])) = H4 at W4 s04 hpd4 D4 mv4 ml4 kp4 ⊢
    obtain ⟨am, dxm, eam, ham⟩ := mv4
    cases eam
    have O4 : Ok (moved h k x u v) := O.moved hk h80 hx2 hx64 hu64
    have hk4 : k < (moved h k x u v).desks.length := by
      show k < (h.desks.set k _).length
      simpa using hk
    have ed4 : (moved h k x u v).desk k = h.desk k ++ [made h k x u v] := by
      have := desk_set (h := ⟨h.all ++ [made h k x u v], h.desks⟩) (k := k) (l := h.desk k ++ [made h k x u v]) hk k
      rw [if_pos rfl] at this
      exact this
    have ok4 : OkL (h.desk k ++ [made h k x u v]) := by
      have := O4.desk (desk_mem hk4)
      rw [ed4] at this
      exact this
    refine ⟨_, rfl, p, c.M, dxm, _, _, rfl, ham, T.clM, T.nNumber, mF_number _, _, rfl, p, c.M, dxm, _, _, rfl, ham, T.clM, T.nCounter, mF_counter _, ?_⟩
    refine ⟨_, rfl, pw, c.W, z.dx, _, _, rfl, W4.w, T.clW, T.nLearned, wF_learned _ _, _, rfl, z.pl, _, (k : Int), _, rfl, rfl, SqL.of W4.l, atI_nat e1, pk, _, rfl, ml4, ok4, fun pr pt po H5 s5 npr npt hpr tr hpo => ?_⟩
    have eS : Sq34.sorted (h.desk k ++ [made h k x u v]) = Sq34.sorted (h.desk k) ++ [made h k x u v] := sorted_snoc okk.dst fun e he => made_later he
    rw [eS, outs_snoc, nl_snoc] at hpo
    refine ⟨pr, _, 1, _, rfl, rfl, SqT.of hpr, at_of (j := 1) rfl rfl, _, rfl, po, _, -1, _, rfl, rfl, SqL.of hpo, atI_last _ _, (by show 3 ≤ sizeLine; decide), fun pl npl => ?_⟩
    rw [est0] at kQ
    exact kQ pl _ (D4.mono (s5.trans (same_upd npl))) (s04.free (s5.free npl)) upd_same
/-! ### deliver -/
abbrev sDel : Stmt := top 51
abbrev nDel : List Str := ["desk", "numbers", "world", "number", "replica"]
theorem scDel : FnScope nDel ["desk", "numbers"] (defScope sDel) := ⟨rfl, rfl, rfl, by decide +kernel, rfl, by decide +kernel, by decide +kernel⟩
theorem d_del (T : Txt K mg c fR) (D : DefAt K mg "deliver" sDel) (DA : DefX P w K mg base 1 "ask" ["holds", "code"] (spAsk c)) (DR : DefX P w K mg base 2 "ask_replica" ["world", "replica"] (spAskR c)) (DK : Def P w K mg base CX0 1 "knows" ["world", "replica", "move"] (spKnows c)) :
    DefX P w K mg base 9 "deliver" ["desk", "numbers"] (spDeed c (fun q : Nat × Nat => [q.1, q.2]) fun q => .tell q.1 q.2) := by
  obtain ⟨f, fd, hm, F⟩ := D
  obtain ⟨fA, fdA, hmA, kA, bA, GA⟩ := DA
  obtain ⟨fR, fdR, hmR, kR, bR, GR⟩ := DR
  obtain ⟨fK, fdK, hmK, kK, bK, GK⟩ := DK
  refine ⟨f, fd, hm, F.kp, F.binds (fun _ _ _ _ _ _ us hl => match us, hl with | [_, _], _ => rfl), F.okX scDel (fun vs H Q E h => ?_) (fun cdv A outer s H vs Q E hr h => ?_)⟩
  · obtain ⟨H0, pd, pn, h, x, rfl, _⟩ := h
    rfl
  · obtain ⟨H0, pd, pn, h, ⟨i, k⟩, rfl, D, O, hpn, hlen, kF, kQ⟩ := h
    have D0 := D
    obtain ⟨s0, dd, pw, z, hpd, W, nd, new⟩ := D
    have kQ : ∀ p H', DAt c H0 H' pd (h.step (.tell i k)).1 → H0 p = none → H' p = some (.lst (((h.step (.tell i k)).2.value :: (h.step (.tell i k)).2.out).map V.int)) → Q (.ref p) H' := kQ
    have kF : ∀ zc, h.step (.tell i k) = (h, Sq34.says zc) → Refuse c E H zc := kF
    refine ⟨_, pss_cons (ps_set (i := 2) scDel.nd rfl (Or.inl rfl) (pe_fld (pv 0) rfl))
      (pss_cons (ps_asg (pv 1) (pg_unl rfl (pgs_cons (pg_name (i := 3) scDel.nd rfl (Or.inl rfl)) (pgs_cons (pg_name (i := 4) scDel.nd rfl (Or.inl rfl)) pgs_nil))))
      (pss_cons (ps_expr (pe_call (E := E) GA (hr.mono (by decide)) rfl hmA kA bA .nil (passes_call (takes_of rfl rfl rfl rfl) (fun _ _ _ _ h => h)) (pa_cons (pe_cmpR op_lt (pv 3) (pe_callB call_len_seq (by rfl) T.len PySem.boot_len (pa_cons (pe_fld (pv 2) rfl) pa_nil)) (nomark _)) (pa_cons (pe_num T.noSuch) pa_nil))))
      (pss_cons (ps_expr (pe_call (E := E) GR (hr.mono (by decide)) rfl hmR kR bR .nil (passes_call (takes_of rfl rfl rfl rfl) (fun _ _ _ _ h => h)) (pa_cons (pv 2) (pa_cons (pv 4) pa_nil))))
      (pss_cons (ps_if (pt_not (pt_val (pe_call GK (hr.mono (by decide)) rfl hmK kK bK .nil pass0 (pa_cons (pv 2) (pa_cons (pv 4) (pa_cons (pe_ix ix_list (pe_fld (pv 2) rfl) (pv 3) (fun _ _ => rfl)) pa_nil))))))
        (pss_one (ps_expr (pe_bm PySem.F.plainAttrs_list PySem.F.slot_list_append PySem.F.type_list_append mt_append (pe_ix ix_list (pe_fld (pv 2) rfl) (pv 4) (fun _ _ => rfl)) (pa_cons (pe_ix ix_list (pe_fld (pv 2) rfl) (pv 3) (fun _ _ => rfl)) pa_nil)))) pss_nil)
      (pss_one (ps_ret (pe_lst (pa_cons (pe_callB call_len_seq (by rfl) T.len PySem.boot_len (pa_cons (pe_ix ix_list (pe_fld (pv 2) rfl) (pv 4) (fun _ _ => rfl)) pa_nil)) pa_nil)))))))), ?_⟩
    obtain ⟨ms, hms, mm⟩ := W.m
    have lM : ms.length = h.all.length := mm.length
    have hnone : ¬ i < h.all.length → h.step (.tell i k) = (h, Sq34.says (-2)) := fun hi => by
      have e0 : h.all[i]? = none := List.getElem?_eq_none (by omega)
      unfold Sq34.House.step
      simp only [e0]
    refine ⟨_, rfl, pd, c.D, dd, _, _, rfl, hpd, T.clD, T.nWorld, dF_world pw, ?_⟩
    refine ⟨_, rfl, pn, _, rfl, SqL.of hpn, rfl, _, _, rfl, _, _, rfl, rfl, ?_⟩
    refine ⟨_, rfl, _, rfl, pw, c.W, z.dx, _, _, rfl, W.w, T.clW, T.nMoves, wF_moves _ _, z.pm, _, rfl, .inl (SqL.of hms), _, _, rfl, rfl, _, _, rfl, fun e => ?_, fun e => kF _ (hnone (by have := of_decide_eq_false e; omega))⟩
    have hi : i < h.all.length := by
      have := of_decide_eq_true e
      omega
    obtain ⟨d, hd⟩ : ∃ d, h.all[i]? = some d := ⟨_, List.getElem?_eq_getElem hi⟩
    have hdm := List.mem_of_getElem? hd
    have est : h.step (.tell i k) = (if h.desks.length ≤ k then (h, Sq34.says (-2)) else (h.learns k d, Sq34.says ((h.learns k d).desk k).length)) := by
      unfold Sq34.House.step
      simp only [hd]
    refine ⟨_, rfl, _, rfl, pw, z, h, k, rfl, W, fun hk => ?_, fun hk => kF _ (est.trans (if_pos hk))⟩
    rw [if_neg (by omega)] at est
    rw [est] at kQ
    obtain ⟨vm, hvm, mvd⟩ := Paired.at2 mm hd
    obtain ⟨pk, e1, ek, vsK, hpk, mk⟩ := W.desk hk
    have okk := O.desk (desk_mem hk)
    refine ⟨_, rfl, _, rfl, _, rfl, pw, c.W, z.dx, _, _, rfl, W.w, T.clW, T.nMoves, wF_moves _ _, _, rfl, z.pm, _, (i : Int), _, rfl, rfl, SqL.of hms, atI_nat hvm, pw, z, h, k, vm, d, rfl, W, O, hk, mvd, hdm, fun H1 s1 => ⟨_, rfl, ?_⟩⟩
    have W1 := W.same s1
    have hpk1 := s1 _ _ hpk
    have mk1 := mk.same s1
    have hms1 := s1 _ _ hms
    cases hc : (h.desk k).contains d with
    | true =>
      refine if_false_of rfl ?_
      have hin : d ∈ h.desk k := by simpa using hc
      rw [learns_yes hin] at kQ
      refine ⟨_, rfl, pw, c.W, z.dx, _, _, rfl, W1.w, T.clW, T.nLearned, wF_learned _ _, _, rfl, z.pl, _, (k : Int), _, rfl, rfl, SqL.of W1.l, atI_nat e1, pk, _, rfl, .inl (SqL.of hpk1), (by show 1 ≤ sizeLine; decide), fun p np => ?_⟩
      refine kQ p _ (D0.mono (s1.trans (same_upd np))) (s0.free (s1.free np)) ?_
      rw [upd_same, mk.length]
      rfl
    | false =>
      refine if_true_of rfl ?_
      have hnot : d ∉ h.desk k := by
        have := hc
        simpa using this
      rw [learns_no hnot] at kQ
      have n2 : H0 pk = none := new _ (by simp [List.mem_of_getElem? ek])
      refine ⟨_, rfl, pw, c.W, z.dx, _, _, rfl, W1.w, T.clW, T.nLearned, wF_learned _ _, _, rfl, z.pl, _, (k : Int), _, rfl, rfl, SqL.of W1.l, atI_nat e1, .inl ⟨rfl, _, SqL.of hpk1⟩,
        _, rfl, pw, c.W, z.dx, _, _, rfl, W1.w, T.clW, T.nMoves, wF_moves _ _, _, rfl, z.pm, _, (i : Int), _, rfl, rfl, SqL.of hms1, atI_nat hvm, pk, _, _, rfl, rfl, hpk1, ?_, ?_⟩
      · rw [mk.length]
        exact Nat.lt_of_le_of_lt okk.len (by decide)
      have mN : MvsAt c.M H1 (vsK ++ [vm]) (h.desk k ++ [d]) := Paired.app mk1 (.cons (mvd.same s1) .nil)
      have W2 := WAt.put_desk W1 nd ek hpk1 mN
      have kp2 : Kp H1 (upd H1 pk (.lst (vsK ++ [vm]))) := Kp.upd hpk1
      have s02 : Same H0 (upd H1 pk (.lst (vsK ++ [vm]))) := same_new (s0.trans s1) n2
      have hpk2 : (upd H1 pk (.lst (vsK ++ [vm]))) pk = some (.lst (vsK ++ [vm])) := upd_same
      have hpd2 := kp2 _ _ (s1 _ _ hpd) fun ys q => (by cases q)
      have D2 : DAt c H0 (upd H1 pk (.lst (vsK ++ [vm]))) pd { h with desks := h.desks.set k (h.desk k ++ [d]) } := ⟨s02, dd, pw, z, hpd2, W2, nd, new⟩
      generalize upd H1 pk (.lst (vsK ++ [vm])) = H2 at W2 kp2 s02 hpk2 hpd2 D2 ⊢
      refine ⟨_, rfl, pw, c.W, z.dx, _, _, rfl, W2.w, T.clW, T.nLearned, wF_learned _ _, _, rfl, z.pl, _, (k : Int), _, rfl, rfl, SqL.of W2.l, atI_nat e1, pk, _, rfl, .inl (SqL.of hpk2), (by show 1 ≤ sizeLine; decide), fun p np => ?_⟩
      refine kQ p _ (D2.mono (same_upd np)) (s02.free np) ?_
      rw [upd_same, desk_set hk, if_pos rfl, List.length_append, List.length_append, mk.length]
      rfl
end
end Pv
end
section
set_option maxRecDepth 100000
set_option maxHeartbeats 4000000
namespace Pv
open PySem PySem.Spec PyProof.Rows L2 PvR
theorem news_len {h : Sq34.House} (O : Ok h) {k j : Nat} (hj : j < h.desks.length) : (news h k j).length ≤ 80 := by
  unfold news
  exact Nat.le_trans (List.length_filter_le _ _) (O.desk (desk_mem hj)).sorted.len
theorem met_step {h : Sq34.House} (O : Ok h) {k j : Nat} (hk : k < h.desks.length) (hj : j < h.desks.length) : h.step (.meet k j) = (met h k j, ⟨((h.desk k).length + (news h k j).length : Nat), Sq34.ints [(news h k j).length, (news h j k).length]⟩) := by
  unfold Sq34.House.step
  simp only
  rw [if_neg (by omega), meet_eq O hk hj, met_desk1 O hk hj, met_desk2 O hk hj, List.length_append, List.length_append]
  have e1 : (h.desk k).length + (news h k j).length - (h.desk k).length = (news h k j).length := by omega
  have e2 : (h.desk j).length + (news h j k).length - (h.desk j).length = (news h j k).length := by omega
  rw [e1, e2]
/-- the second list, behind the first one's writing -/
theorem met_second {h : Sq34.House} (O : Ok h) {k j : Nat} (hk : k < h.desks.length) (hj : j < h.desks.length) :
    ({ ({ h with desks := h.desks.set k (h.desk k ++ news h k j) } : Sq34.House) with desks := (h.desks.set k (h.desk k ++ news h k j)).set j (({ h with desks := h.desks.set k (h.desk k ++ news h k j) } : Sq34.House).desk j ++ news h j k) } : Sq34.House) = met h k j := by
  rw [desk_set hk]
  unfold met
  by_cases e : j = k
  · subst e
    rw [if_pos rfl, news_self O hk, List.append_nil, List.append_nil]
  · rw [if_neg e]
section
variable {P : Program} {w : World} {K : PySem.W.Frag} {mg : Str → Option Value} {base : Heap} {c : Cl} {fR : Addr}
/-! ### sync -/
abbrev sSync : Stmt := top 52
abbrev nSync : List Str := ["desk", "numbers", "world", "replica", "other", "own", "others"]
theorem scSync : FnScope nSync ["desk", "numbers"] (defScope sSync) := ⟨rfl, rfl, rfl, by decide +kernel, rfl, by decide +kernel, by decide +kernel⟩
theorem d_sync (T : Txt K mg c fR) (D : DefAt K mg "sync" sSync) (DR : DefX P w K mg base 2 "ask_replica" ["world", "replica"] (spAskR c)) (DN : Def P w K mg base CX0 5 "not_known" ["world", "replica", "other"] (spNot c)) :
    DefX P w K mg base 9 "sync" ["desk", "numbers"] (spDeed c (fun q : Nat × Nat => [q.1, q.2]) fun q => .meet q.1 q.2) := by
  obtain ⟨f, fd, hm, F⟩ := D
  obtain ⟨fR, fdR, hmR, kR, bR, GR⟩ := DR
  obtain ⟨fN, fdN, hmN, kN, bN, GN⟩ := DN
  refine ⟨f, fd, hm, F.kp, F.binds (fun _ _ _ _ _ _ us hl => match us, hl with | [_, _], _ => rfl), F.okX scSync (fun vs H Q E h => ?_) (fun cdv A outer s H vs Q E hr h => ?_)⟩
  · obtain ⟨H0, pd, pn, h, x, rfl, _⟩ := h
    rfl
  · obtain ⟨H0, pd, pn, h, ⟨k, j⟩, rfl, D, O, hpn, hlen, kF, kQ⟩ := h
    have D0 := D
    obtain ⟨s0, dd, pw, z, hpd, W, nd, new⟩ := D
    have kQ : ∀ p H', DAt c H0 H' pd (h.step (.meet k j)).1 → H0 p = none → H' p = some (.lst (((h.step (.meet k j)).2.value :: (h.step (.meet k j)).2.out).map V.int)) → Q (.ref p) H' := kQ
    have kF : ∀ zc, h.step (.meet k j) = (h, Sq34.says zc) → Refuse c E H zc := kF
    refine ⟨_, pss_cons (ps_set (i := 2) scSync.nd rfl (Or.inl rfl) (pe_fld (pv 0) rfl))
      (pss_cons (ps_asg (pv 1) (pg_unl rfl (pgs_cons (pg_name (i := 3) scSync.nd rfl (Or.inl rfl)) (pgs_cons (pg_name (i := 4) scSync.nd rfl (Or.inl rfl)) pgs_nil))))
      (pss_cons (ps_expr (pe_call (E := E) GR (hr.mono (by decide)) rfl hmR kR bR .nil (passes_call (takes_of rfl rfl rfl rfl) (fun _ _ _ _ h => h)) (pa_cons (pv 2) (pa_cons (pv 3) pa_nil))))
      (pss_cons (ps_expr (pe_call (E := E) GR (hr.mono (by decide)) rfl hmR kR bR .nil (passes_call (takes_of rfl rfl rfl rfl) (fun _ _ _ _ h => h)) (pa_cons (pv 2) (pa_cons (pv 4) pa_nil))))
      (pss_cons (ps_par (i := 5) (j := 6) (by rfl) scSync.nd rfl rfl (by decide) rfl rfl (pa_cons (pe_call GN (hr.mono (by decide)) rfl hmN kN bN .nil pass0 (pa_cons (pv 2) (pa_cons (pv 3) (pa_cons (pv 4) pa_nil)))) (pa_cons (pe_call GN (hr.mono (by decide)) rfl hmN kN bN .nil pass0 (pa_cons (pv 2) (pa_cons (pv 4) (pa_cons (pv 3) pa_nil)))) pa_nil)) (by rfl))
      (pss_cons (ps_expr (pe_bm PySem.F.plainAttrs_list PySem.F.slot_list_extend PySem.F.type_list_extend mt_extend (pe_ix ix_list (pe_fld (pv 2) rfl) (pv 3) (fun _ _ => rfl)) (pa_cons (pv 5) pa_nil)))
      (pss_cons (ps_expr (pe_bm PySem.F.plainAttrs_list PySem.F.slot_list_extend PySem.F.type_list_extend mt_extend (pe_ix ix_list (pe_fld (pv 2) rfl) (pv 4) (fun _ _ => rfl)) (pa_cons (pv 6) pa_nil)))
      (pss_one (ps_ret (pe_lst (pa_cons (pe_callB call_len_seq (by rfl) T.len PySem.boot_len (pa_cons (pe_ix ix_list (pe_fld (pv 2) rfl) (pv 3) (fun _ _ => rfl)) pa_nil)) (pa_cons (pe_callB call_len_seq (by rfl) T.len PySem.boot_len (pa_cons (pv 5) pa_nil)) (pa_cons (pe_callB call_len_seq (by rfl) T.len PySem.boot_len (pa_cons (pv 6) pa_nil)) pa_nil)))))))))))), ?_⟩
    refine ⟨_, rfl, pd, c.D, dd, _, _, rfl, hpd, T.clD, T.nWorld, dF_world pw, ?_⟩
    refine ⟨_, rfl, pn, _, rfl, SqL.of hpn, rfl, _, _, rfl, _, _, rfl, rfl, ?_⟩
    refine ⟨_, rfl, _, rfl, pw, z, h, k, rfl, W, fun hk => ?_, fun hk => kF _ (if_pos (.inl hk))⟩
    refine ⟨_, rfl, _, rfl, pw, z, h, j, rfl, W, fun hj => ?_, fun hj => kF _ (if_pos (.inr hj))⟩
    rw [met_step O hk hj] at kQ
    -- own, others
    refine ⟨_, rfl, _, rfl, _, rfl, pw, z, h, k, j, rfl, W, O, hk, hj, fun po H1 s1 n1 mo => ?_⟩
    refine ⟨_, rfl, _, rfl, _, rfl, pw, z, h, j, k, rfl, W.same s1, O, hj, hk, fun pt H2 s2 n2 mt => ?_⟩
    refine ⟨_, _, rfl, ?_⟩
    have s12 := s1.trans s2
    have W2 := W.same s12
    obtain ⟨vo, hvo, mvo⟩ := mo.same s2
    obtain ⟨vt, hvt, mvt⟩ := mt
    have lo : vo.length = (news h k j).length := mvo.length
    have lt : vt.length = (news h j k).length := mvt.length
    have bo := news_len O (k := k) hj
    have bt := news_len O (k := j) hk
    obtain ⟨pk, e1, ek, vsK, hpk, mk⟩ := W2.desk hk
    have okk := O.desk (desk_mem hk)
    have okj := O.desk (desk_mem hj)
    have n0k : H0 pk = none := new _ (by simp [List.mem_of_getElem? ek])
    have dok : po ≠ pk := fun e => by
      have : H pk = none := by rw [← e]; exact n1
      obtain ⟨pk', e1', ek', vs', hpk', _⟩ := W.desk hk
      have : pk' = pk := Option.some.inj (ek'.symm.trans ek)
      subst this
      rw [hpk'] at this
      cases this
    have dtk : pt ≠ pk := fun e => by
      have h1 : H pk = none := by rw [← e]; exact s1.free n2
      obtain ⟨pk', e1', ek', vs', hpk', _⟩ := W.desk hk
      have : pk' = pk := Option.some.inj (ek'.symm.trans ek)
      subst this
      rw [hpk'] at h1
      cases h1
    -- world.learned[replica].extend(own)
    refine ⟨_, rfl, pw, c.W, z.dx, _, _, rfl, W2.w, T.clW, T.nLearned, wF_learned _ _, _, rfl, z.pl, _, (k : Int), _, rfl, rfl, SqL.of W2.l, atI_nat e1, .inl ⟨rfl, _, SqL.of hpk⟩, _, rfl, pk, po, vsK, vo, rfl, rfl, hpk, hvo, ?_, ?_⟩
    · have := mk.length
      have := okk.len
      exact Nat.le_trans (by omega : _ ≤ 1000) (by decide)
    have W3 := WAt.put_desk W2 nd ek hpk (Paired.app mk mvo)
    have kp3 : Kp H2 (upd H2 pk (.lst (vsK ++ vo))) := Kp.upd hpk
    have s03 : Same H0 (upd H2 pk (.lst (vsK ++ vo))) := same_new (s0.trans s12) n0k
    have hvo3 : (upd H2 pk (.lst (vsK ++ vo))) po = some (.lst vo) := by rw [upd_ne dok]; exact hvo
    have hvt3 : (upd H2 pk (.lst (vsK ++ vo))) pt = some (.lst vt) := by rw [upd_ne dtk]; exact hvt
    have mvt3 := MvsAt.kp kp3 mvt
    generalize upd H2 pk (.lst (vsK ++ vo)) = H3 at W3 kp3 s03 hvo3 hvt3 mvt3 ⊢
    have hj3 : j < (h.desks.set k (h.desk k ++ news h k j)).length := by simpa using hj
    obtain ⟨pj, e1j, ekj, vsJ, hpj, mj⟩ := W3.desk (k := j) hj3
    have n0j : H0 pj = none := new _ (by simp [List.mem_of_getElem? ekj])
    have oldj : ∃ vs, H pj = some (.lst vs) := by
      obtain ⟨pj', _, ekj', vs', hpj', _⟩ := W.desk hj
      have : pj' = pj := Option.some.inj (ekj'.symm.trans ekj)
      subst this
      exact ⟨vs', hpj'⟩
    obtain ⟨vsj0, hpj0⟩ := oldj
    have doj : po ≠ pj := fun e => by
      rw [e, hpj0] at n1
      cases n1
    have dtj : pt ≠ pj := fun e => by
      have h1 := s1.free n2
      rw [e, hpj0] at h1
      cases h1
    have ljj : vsJ.length ≤ 160 := by
      rw [mj.length, desk_set hk]
      split
      · rw [List.length_append]
        have := okk.len
        omega
      · have := okj.len
        omega
    -- world.learned[other].extend(others)
    refine ⟨_, rfl, pw, c.W, z.dx, _, _, rfl, W3.w, T.clW, T.nLearned, wF_learned _ _, _, rfl, z.pl, _, (j : Int), _, rfl, rfl, SqL.of W3.l, atI_nat e1j, .inl ⟨rfl, _, SqL.of hpj⟩, _, rfl, pj, pt, vsJ, vt, rfl, rfl, hpj, hvt3, Nat.le_trans (by omega : _ ≤ 1000) (by decide), ?_⟩
    have W4 := WAt.put_desk W3 nd ekj hpj (Paired.app mj mvt3)
    have eM := met_second O hk hj
    have W4 : WAt c (upd H3 pj (.lst (vsJ ++ vt))) pw z (met h k j) := by
      rw [← eM]
      exact W4
    have kp4 : Kp H3 (upd H3 pj (.lst (vsJ ++ vt))) := Kp.upd hpj
    have s04 : Same H0 (upd H3 pj (.lst (vsJ ++ vt))) := same_new s03 n0j
    have hvo4 : (upd H3 pj (.lst (vsJ ++ vt))) po = some (.lst vo) := by rw [upd_ne doj]; exact hvo3
    have hvt4 : (upd H3 pj (.lst (vsJ ++ vt))) pt = some (.lst vt) := by rw [upd_ne dtj]; exact hvt3
    have hpd4 := kp4 _ _ (kp3 _ _ (s12 _ _ hpd) fun ys q => (by cases q)) fun ys q => (by cases q)
    have D4 : DAt c H0 (upd H3 pj (.lst (vsJ ++ vt))) pd (met h k j) := ⟨s04, dd, pw, z, hpd4, W4, nd, new⟩
    generalize upd H3 pj (.lst (vsJ ++ vt)) = H4 at W4 kp4 s04 hvo4 hvt4 hpd4 D4 ⊢
    have hkM : k < (met h k j).desks.length := by
      show k < ((h.desks.set k _).set j _).length
      simpa using hk
    obtain ⟨pk4, e14, _, vs4, hpk4, mk4⟩ := W4.desk hkM
    rw [met_desk1 O hk hj] at mk4
    have l4 : vs4.length = (h.desk k).length + (news h k j).length := by rw [mk4.length, List.length_append]
    refine ⟨_, rfl, pw, c.W, z.dx, _, _, rfl, W4.w, T.clW, T.nLearned, wF_learned _ _, _, rfl, z.pl, _, (k : Int), _, rfl, rfl, SqL.of W4.l, atI_nat e14, pk4, _, rfl, .inl (SqL.of hpk4),
      _, rfl, po, _, rfl, .inl (SqL.of hvo4), _, rfl, pt, _, rfl, .inl (SqL.of hvt4), (by show 3 ≤ sizeLine; decide), fun p np => ?_⟩
    refine kQ p _ (D4.mono (same_upd np)) (s04.free np) ?_
    rw [upd_same, l4, lo, lt]
    rfl
end
end Pv
end
section
set_option maxRecDepth 100000
set_option maxHeartbeats 4000000
namespace Pv
open PySem PySem.Spec PyProof.Rows L2 PvR
/-- each deed's promise, by its number -/
def spQ (c : Cl) : Nat → Sp
  | 1 => spDeed c (fun n : Nat => [n]) fun n => .begin_ n
  | 2 => spDeed c (fun q : Nat × Nat × Nat × Nat => [q.1, q.2.1, q.2.2.1, q.2.2.2]) fun q => .move q.1 q.2.1 q.2.2.1 q.2.2.2
  | 3 => spDeed c (fun q : Nat × Nat => [q.1, q.2]) fun q => .tell q.1 q.2
  | 4 => spDeed c (fun q : Nat × Nat => [q.1, q.2]) fun q => .meet q.1 q.2
  | 5 => spDeed c (fun q : Nat × Nat × Nat × Nat => [q.1, q.2.1, q.2.2.1, q.2.2.2]) fun q => .as_ q.1 q.2.1 q.2.2.1 q.2.2.2
  | 6 => spDeed c (fun q : Nat × Nat × Nat × Nat × Nat => [q.1, q.2.1, q.2.2.1, q.2.2.2.1, q.2.2.2.2]) fun q => .line q.1 q.2.1 q.2.2.1 q.2.2.2.1 q.2.2.2.2
  | 7 => spDeed c (fun q : Nat × Nat × Nat × Nat × Nat => [q.1, q.2.1, q.2.2.1, q.2.2.2.1, q.2.2.2.2]) fun q => .whose q.1 q.2.1 q.2.2.1 q.2.2.2.1 q.2.2.2.2
  | 8 => spDeed c (fun q : Nat × Nat × Nat × Nat × Nat × Nat × Nat => [q.1, q.2.1, q.2.2.1, q.2.2.2.1, q.2.2.2.2.1, q.2.2.2.2.2.1, q.2.2.2.2.2.2]) fun q => .between q.1 q.2.1 q.2.2.1 q.2.2.2.1 q.2.2.2.2.1 q.2.2.2.2.2.1 q.2.2.2.2.2.2
  | 9 => spDeed c (fun q : Nat × Nat => [q.1, q.2]) fun q => .life q.1 q.2
  | 10 => spDeed c (fun q : Nat × Nat => [q.1, q.2]) fun q => .since q.1 q.2
  | 11 => spDeed c (fun k : Nat => [k]) fun k => .surprises k
  | 12 => spDeed c (fun k : Nat => [k]) fun k => .learned k
  | _ => fun _ _ _ _ => False
theorem deed_sp {c : Cl} {q : Nat} {args : List Nat} {cl : Sq34.Call} {H0 H : Hp} {pd pn : Addr} {h : Sq34.House} {Q : VK} {E : XK} (hc : mkCall q args = some cl) (D : DAt c H0 H pd h) (O : Ok h) (hpn : H pn = some (.lst (nl args))) (hlen : (h.step cl).2.out.length ≤ 10000000)
    (kF : ∀ zc, h.step cl = (h, Sq34.says zc) → Refuse c E H zc) (kQ : ∀ p H', DAt c H0 H' pd (h.step cl).1 → H0 p = none → H' p = some (.lst (((h.step cl).2.value :: (h.step cl).2.out).map V.int)) → Q (.ref p) H') : spQ c q [.ref pd, .ref pn] H Q E := by
  unfold mkCall at hc
  split at hc
  all_goals first | cases hc | skip
  · exact ⟨H0, pd, pn, h, _, rfl, D, O, hpn, hlen, kF, kQ⟩
  · rename_i a b d e
    exact ⟨H0, pd, pn, h, (a, b, d, e), rfl, D, O, hpn, hlen, kF, kQ⟩
  · rename_i a b
    exact ⟨H0, pd, pn, h, (a, b), rfl, D, O, hpn, hlen, kF, kQ⟩
  · rename_i a b
    exact ⟨H0, pd, pn, h, (a, b), rfl, D, O, hpn, hlen, kF, kQ⟩
  · rename_i a b d e
    exact ⟨H0, pd, pn, h, (a, b, d, e), rfl, D, O, hpn, hlen, kF, kQ⟩
  · rename_i a b d e g
    exact ⟨H0, pd, pn, h, (a, b, d, e, g), rfl, D, O, hpn, hlen, kF, kQ⟩
  · rename_i a b d e g
    exact ⟨H0, pd, pn, h, (a, b, d, e, g), rfl, D, O, hpn, hlen, kF, kQ⟩
  · rename_i a b d e g i j
    exact ⟨H0, pd, pn, h, (a, b, d, e, g, i, j), rfl, D, O, hpn, hlen, kF, kQ⟩
  · rename_i a b
    exact ⟨H0, pd, pn, h, (a, b), rfl, D, O, hpn, hlen, kF, kQ⟩
  · rename_i a b
    exact ⟨H0, pd, pn, h, (a, b), rfl, D, O, hpn, hlen, kF, kQ⟩
  · exact ⟨H0, pd, pn, h, _, rfl, D, O, hpn, hlen, kF, kQ⟩
  · exact ⟨H0, pd, pn, h, _, rfl, D, O, hpn, hlen, kF, kQ⟩
def deedNames : List Str := ["begin", "move_made", "deliver", "sync", "tree_at", "ancestors", "moved_by", "differences", "history", "since", "surprises", "known"]
section
variable {P : Program} {w : World} {K : PySem.W.Frag} {mg : Str → Option Value} {base : Heap} {c : Cl} {fR : Addr}
/-- the tuple of the deeds, the tuple of how many numbers each has -/
structure Tabs (K : PySem.W.Frag) (mg : Str → Option Value) : Prop where
  deeds : ∃ (D : Addr) (bs : List Addr), mg "DEEDS" = some (.ref D) ∧ (∀ H, SqT K H D (bs.map V.ref)) ∧ bs.map (fun b => some (Value.ref b)) = deedNames.map mg
  nums : ∃ N : Addr, mg "NUMBERS" = some (.ref N) ∧ ∀ H, SqT K H N (nl numb)
/-! ### answer -/
abbrev sAnswer : Stmt := top 62
abbrev nAnswer : List Str := ["desk", "sort", "numbers", "deed", "refusal"]
theorem scAnswer : FnScope nAnswer ["desk", "sort", "numbers"] (defScope sAnswer) := ⟨rfl, rfl, rfl, by decide +kernel, rfl, by decide +kernel, by decide +kernel⟩
def spAnswer (c : Cl) : Sp := fun vs H Q _ => ∃ H0 pd pn h q args cl, vs = [.ref pd, .int ((q : Nat) : Int), .ref pn] ∧ 1 ≤ q ∧ q ≤ 12 ∧ mkCall q args = some cl ∧ DAt c H0 H pd h ∧ Ok h ∧ H pn = some (.lst (nl args)) ∧ (h.step cl).2.out.length ≤ 10000000 ∧
  (∀ p H', DAt c H0 H' pd (h.step cl).1 → H0 p = none → H' p = some (.lst (((h.step cl).2.value :: (h.step cl).2.out).map V.int)) → Q (.ref p) H')
theorem d_answer (T : Txt K mg c fR) (B : Tabs K mg) (D : DefAt K mg "answer" sAnswer) (G : ∀ q, 1 ≤ q → q ≤ 12 → ∀ b, mg (deedNames.getD (q - 1) "") = some (.ref b) → HeldX P w K mg base 9 b (spQ c q)) :
    Def P w K mg base CX0 10 "answer" ["desk", "sort", "numbers"] (spAnswer c) := by
  obtain ⟨f, fd, hm, F⟩ := D
  obtain ⟨aD, bs, hD, sD, eD⟩ := B.deeds
  refine ⟨f, fd, hm, F.kp, F.binds (fun _ _ _ _ _ _ us hl => match us, hl with | [_, _, _], _ => rfl), F.ok scAnswer (fun vs H Q E h => ?_) (fun cdv A outer s H vs Q E hr h => ?_)⟩
  · obtain ⟨H0, pd, pn, h, q, args, cl, rfl, _⟩ := h
    rfl
  · obtain ⟨H0, pd, pn, h, q, args, cl, rfl, h1, h12, hc, D, O, hpn, hlen, kQ⟩ := h
    refine ⟨_, pss_cons (ps_set (i := 3) scAnswer.nd rfl (Or.inl rfl) (pe_ix ix_tup (pe_glob (v := .ref aD) rfl hD rfl) (pe_op op_sub (pv 1) pe_int) (fun _ _ => rfl)))
      (pss_one (ps_try_as (i := 4) (tb := fun W => tRet (tCallH P w K mg base 9 3 (WE W) (tCons (tVar 0) (tCons (tVar 2) tNil)))) (ts := fun a cls d => tRet (tLst (tCons (tByRef c.R a cls d (tVar 4)) tNil))) (Wout := fun _ _ _ _ => False) rfl rfl scAnswer.nd rfl rfl ⟨rfl, by decide, Or.inl T.ref.gC⟩ takes0
        (fun W pn xe tk _ => pss_one (ps_ret (by exact (pe_callH hr rfl (.inl rfl) (fun σ => passAt tk σ) (by exact (pa_cons (pv 0) (pa_cons (pv 2) pa_nil)))))))
        (fun a oe cls d pn hz hf => pss_one (ps_ret (by exact (pe_lst (pa_cons (pe_byRef T.ref hz hf (pv 4)) pa_nil))))))), ?_⟩
    have lb : bs.length = 12 := by
      have := congrArg List.length eD
      rw [List.length_map, List.length_map] at this
      exact this
    obtain ⟨b, hb⟩ : ∃ b, bs[q - 1]? = some b := ⟨_, List.getElem?_eq_getElem (by omega)⟩
    have hbn : mg (deedNames.getD (q - 1) "") = some (.ref b) := by
      have e1 : (bs.map (fun b => some (Value.ref b)))[q - 1]? = some (some (Value.ref b)) := by rw [List.getElem?_map, hb]; rfl
      rw [eD, List.getElem?_map] at e1
      have hlt : q - 1 < deedNames.length := by show q - 1 < 12; omega
      rw [List.getElem?_eq_getElem hlt] at e1
      rw [List.getD_eq_getElem?_getD, List.getElem?_eq_getElem hlt]
      exact Option.some.inj e1
    have eq1 : (q : Int) - 1 = ((q - 1 : Nat) : Int) := by omega
    have hbv : (bs.map V.ref)[q - 1]? = some (.ref b) := by rw [List.getElem?_map, hb]; rfl
    refine ⟨_, rfl, _, _, rfl, rfl, aD, _, _, _, rfl, rfl, sD H, at_of eq1 hbv, ?_⟩
    refine ⟨b, spQ c q, rfl, G q h1 h12 b hbn, _, rfl, _, rfl, ?_⟩
    refine deed_sp hc D O hpn hlen (fun zc hz d H' sm hn hd => ?_) kQ
    refine ⟨true, T.ref.te, fun _ a0 _ => ?_, fun q => Bool.noConfusion q⟩
    refine ⟨_, rfl, rfl, rfl, d, _, rfl, hd, (by show 1 ≤ sizeLine; decide), fun p np => ?_⟩
    have kQ2 := kQ
    rw [hz] at kQ2
    exact kQ2 p _ (D.mono (sm.trans (same_upd np))) (D.same.free (sm.free np)) upd_same
end
end Pv
end
section
set_option maxRecDepth 100000
set_option maxHeartbeats 4000000
namespace Pv
open PySem PySem.Spec PyProof.Rows L2 PvR
theorem cutV_mid {xs : List V} {a n : Nat} (h : a + n ≤ xs.length) : cutV xs (some (a : Int)) (some ((a + n : Nat) : Int)) = (xs.drop a).take n := by
  unfold cutV
  rw [HT.sIx_nat, HT.sIx_nat, Nat.min_eq_left (show a ≤ xs.length by omega), Nat.min_eq_left h]
  congr 1
  omega
theorem MlAt.put_other {C : Addr} {H : Hp} {a pf : Addr} {l : List Sq28.Deed} {xs : List V} {o : HO} (hpf : H pf = some (.lst xs)) (ne : a ≠ pf) (h : MlAt C H a l) : MlAt C (upd H pf o) a l := h.put hpf ne
/-- another list is written, that the desk doesn't hold -/
theorem DAt.put_found {c : Cl} {H0 H : Hp} {pd pf : Addr} {h : Sq34.House} {xs ys : List V} (D : DAt c H0 H pd h) (hpf : H0 pf = some (.lst xs)) : DAt c (upd H0 pf (.lst ys)) (upd H pf (.lst ys)) pd h := by
  obtain ⟨s0, dd, pw, z, hpd, W, nd, new⟩ := D
  have hf := s0 _ _ hpf
  have ne : ∀ b ∈ pd :: pw :: z.pm :: z.pl :: z.pks, b ≠ pf := fun b hb e => by
    have := new b hb
    rw [e, hpf] at this
    cases this
  refine ⟨fun b o e => ?_, dd, pw, z, by rw [upd_ne (ne pd List.mem_cons_self)]; exact hpd, ⟨by rw [upd_ne (ne pw (by simp))]; exact W.w, W.m.put hf (ne _ (by simp)), by rw [upd_ne (ne _ (by simp))]; exact W.l, Paired.of_get W.len fun i a l ha hl => ?_⟩, nd, fun b hb => ?_⟩
  · by_cases q : b = pf
    · subst q
      rw [upd_same] at e ⊢
      exact e
    · rw [upd_ne q] at e ⊢
      exact s0 _ _ e
  · obtain ⟨b, hb, ml⟩ := Paired.at2 W.k hl
    have : b = a := Option.some.inj (hb.symm.trans ha)
    subst this
    exact ml.put hf (ne _ (by simp [List.mem_of_getElem? ha]))
  · rw [upd_ne (ne b hb)]
    exact new b hb
section
variable {P : Program} {w : World} {K : PySem.W.Frag} {mg : Str → Option Value} {base : Heap} {c : Cl} {fR : Addr}
def DefD (P : Program) (w : World) (K : PySem.W.Frag) (mg : Str → Option Value) (base : Heap) (c : Cl) : Prop := ∃ f fd, Mk K c.D f ∧ Binds K fd ["self"] [] ∧ FnOk P w K mg base CX0 3 f fd ["self"] (spDesk c)
/-! ### answers -/
abbrev sAnswers : Stmt := top 63
abbrev nAnswers : List Str := ["calls", "desk", "found", "at", "sort", "some"]
theorem scAnswers : FnScope nAnswers ["calls"] (defScope sAnswers) := ⟨rfl, rfl, rfl, by decide +kernel, rfl, by decide +kernel, by decide +kernel⟩
def spAnswers (K : PySem.W.Frag) : Sp := fun vs H Q _ => ∃ a ms, vs = [.ref a] ∧ SqL K H a (nl ms) ∧ PySq34.answers_asked (iz ms) = true ∧ ∀ H' p, H' p = some (.lst ((PySq34.answers (iz ms)).map V.int)) → Q (.ref p) H'
/-- behind some of the calls -/
def Loop (c : Cl) (a : Addr) (H : Hp) (ms : List Nat) (pd pf : Addr) (i : Nat) (σ : L2.St) (H' : Hp) : Prop := ∃ (H0 : Hp) (h : Sq34.House) (found : List Int) (cs : List (List (List Int))) (f : Nat) (v4 v5 : Option V),
  σ = [some (.ref a), some (.ref pd), some (.ref pf), some (.int (i : Int)), v4, v5] ∧ Same H H0 ∧ H0 pf = some (.lst (found.map V.int)) ∧ DAt c H0 H' pd h ∧ Ok h ∧ i ≤ ms.length ∧ PyFlat.calls PySq34.shape f (iz (ms.drop i)) = some cs ∧ found ++ tells h cs = PySq34.answers (iz ms)
theorem ok_answers {f : Addr} {fd : FuncData} (T : Txt K mg c fR) (B : Tabs K mg) (F : Fun K "answers" "answers" sAnswers f fd) (DA : Def P w K mg base CX0 10 "answer" ["desk", "sort", "numbers"] (spAnswer c)) (DD : DefD P w K mg base c) :
    FnOk P w K mg base CX0 11 f fd ["calls"] (spAnswers K) := by
  obtain ⟨fA, fdA, hmA, kA, bA, GA⟩ := DA
  obtain ⟨fD, fdD, MD, bD, GD⟩ := DD
  obtain ⟨aN, hN, sN⟩ := B.nums
  refine F.ok scAnswers (fun vs H Q E h => ?_) (fun cdv A outer s H vs Q E hr h => ?_)
  · obtain ⟨a, ms, rfl, _⟩ := h
    rfl
  · obtain ⟨a, ms, rfl, hS, hask, k⟩ := h
    obtain ⟨raw, hraw, hlen⟩ := asked_start hask
    have hst := answers_start hraw
    refine ⟨_, pss_cons (ps_par (i := 1) (j := 2) (by rfl) scAnswers.nd rfl rfl (by decide) rfl rfl (pa_cons (pe_make0 MD GD (hr.mono (by decide)) rfl T.gD bD .nil pass0) (pa_cons (pe_lst pa_nil) pa_nil)) (by rfl))
      (pss_cons (ps_set (i := 3) scAnswers.nd rfl (Or.inl rfl) pe_int)
      (pss_cons (ps_while PassesOwn.never (pt_cmpR op_lt (pv 3) (pe_callB call_len_seq (by rfl) T.len PySem.boot_len (pa_cons (pv 0) pa_nil)) (nomark _))
        (pss_cons (ps_set (i := 4) scAnswers.nd rfl (Or.inl rfl) (pe_ix ix_list (pv 0) (pv 3) (fun _ _ => rfl)))
        (pss_cons (ps_set (i := 5) scAnswers.nd rfl (Or.inl rfl) (pe_call GA hr rfl hmA kA bA .nil pass0 (pa_cons (pv 1) (pa_cons (pv 4) (pa_cons (pe_slice sl_list (pv 0) (po_some (pe_op op_add (pv 3) pe_int)) (po_some (pe_op op_add (pe_op op_add (pv 3) pe_int) (pe_ix ix_tup (pe_glob (v := .ref aN) rfl hN rfl) (pv 4) (fun _ _ => rfl))))) pa_nil)))))
        (pss_cons (ps_aug (i := 3) scAnswers.nd rfl (Or.inl rfl) (pe_op op_add pe_int (pe_ix ix_tup (pe_glob (v := .ref aN) rfl hN rfl) (pv 4) (fun _ _ => rfl))) ip_add)
        (pss_cons (ps_expr (pe_bm PySem.F.plainAttrs_list PySem.F.slot_list_append PySem.F.type_list_append mt_append (pv 2) (pa_cons (pe_callB call_len_seq (by rfl) T.len PySem.boot_len (pa_cons (pv 5) pa_nil)) pa_nil)))
        (pss_one (ps_expr (pe_bm PySem.F.plainAttrs_list PySem.F.slot_list_extend PySem.F.type_list_extend mt_extend (pv 2) (pa_cons (pv 5) pa_nil)))))))))
      (pss_one (ps_ret (pv 2))))), ?_⟩
    -- desk, found = Desk(), []
    intro pd dd npd ndd ne
    refine ⟨pd, dd, rfl, upd_same, fun H1 pw z hpd W nd new keep => ⟨rfl, ?_⟩⟩
    have s1 : Same H H1 := Same.made npd ndd keep
    refine ⟨Nat.zero_le _, fun pf npf => ?_⟩
    refine ⟨_, _, rfl, ?_⟩
    have nHf : H pf = none := s1.free npf
    have newH : ∀ b ∈ pd :: pw :: z.pm :: z.pl :: z.pks, H b = none ∧ b ≠ pf := fun b hb => by
      rcases List.mem_cons.mp hb with e | hb'
      · rw [e]
        exact ⟨npd, ne_of_none hpd npf⟩
      · have n := new b hb'
        refine ⟨?_, fun e => ?_⟩
        · by_cases e1 : b = pd
          · rw [e1, upd_same] at n; cases n
          · rw [upd_ne e1] at n
            by_cases e2 : b = dd
            · rw [e2]; exact ndd
            · rw [upd_ne e2] at n; exact n
        · rw [e] at hb'
          rcases List.mem_cons.mp hb' with q | hb'
          · have := W.w
            rw [← q, npf] at this
            cases this
          rcases List.mem_cons.mp hb' with q | hb'
          · obtain ⟨ms', m1, _⟩ := W.m
            rw [← q, npf] at m1
            cases m1
          rcases List.mem_cons.mp hb' with q | hb'
          · have := W.l
            rw [← q, npf] at this
            cases this
          · obtain ⟨l, _, vs, m1, _⟩ := Paired.memL W.k hb'
            rw [npf] at m1
            cases m1
    have D1 : DAt c (upd H pf (.lst [])) (upd H1 pf (.lst [])) pd Sq34.fresh := by
      have s2 : Same H1 (upd H1 pf (.lst [])) := same_upd npf
      refine ⟨fun b o e => ?_, dd, pw, z, s2 _ _ hpd, W.same s2, nd, fun b hb => ?_⟩
      · by_cases q : b = pf
        · rw [q, upd_same] at e ⊢
          exact e
        · rw [upd_ne q] at e ⊢
          exact s1 _ _ e
      · rw [upd_ne (newH b hb).2]
        exact (newH b hb).1
    refine ⟨fun m σ H' => ∃ i, Loop c a H ms pd pf i σ H' ∧ m = ms.length - i, ⟨_, 0, ⟨upd H pf (.lst []), Sq34.fresh, [], raw, _, none, none, rfl, same_upd nHf, upd_same, D1, Ok.fresh, Nat.zero_le _, hraw, hst.symm⟩, rfl⟩, ?_⟩
    rintro m σ H' ⟨i, ⟨H0, h, found, cs, ff, v4, v5, rfl, sH, hf0, DH, O, hi, hcs, htot⟩, rfl⟩
    have hf' := DH.same _ _ hf0
    have hSq : SqL K H' a (nl ms) := (sH.trans DH.same).seq hS
    refine ⟨_, rfl, _, rfl, a, _, rfl, .inl hSq, _, _, rfl, rfl, _, rfl, ?_⟩
    rw [nl_len]
    by_cases hlt : (i : Int) < (ms.length : Int)
    · refine if_true_of (decide_eq_true hlt) ?_
      have hlt' : i < ms.length := by omega
      obtain ⟨p, hp⟩ : ∃ p, ms[i]? = some p := ⟨_, List.getElem?_eq_getElem hlt'⟩
      have edrop : ms.drop i = p :: ms.drop (i + 1) := by
        rw [List.drop_eq_getElem_cons hlt']
        have := List.getElem?_eq_getElem hlt'
        rw [this] at hp
        rw [Option.some.inj hp]
      have hcs' : PyFlat.calls PySq34.shape ff ((p : Int) :: iz (ms.drop (i + 1))) = some cs := by
        rw [edrop] at hcs
        exact hcs
      obtain ⟨q, n, f2, cs2, h1, h12, hpq, hnb, hnl, ecs, hcs2⟩ := calls_cons hcs'
      have epq : p = q := by omega
      subst epq
      have eiz : (iz (ms.drop (i + 1))).take n = iz ((ms.drop (i + 1)).take n) := by unfold iz; rw [List.map_take]
      have eizd : (iz (ms.drop (i + 1))).drop n = iz (ms.drop (i + 1 + n)) := by unfold iz; rw [← List.map_drop, List.drop_drop]
      have hnl' : n ≤ (ms.drop (i + 1)).length := by
        unfold iz at hnl
        rw [List.length_map] at hnl
        exact hnl
      have hl1 : i + 1 + n ≤ ms.length := by
        rw [List.length_drop] at hnl'
        omega
      have largs : ((ms.drop (i + 1)).take n).length = n := by rw [List.length_take]; omega
      obtain ⟨cl, hcl, hstep⟩ := mk_step h1 h12 hnb largs
      rw [eiz] at ecs
      rw [eizd] at hcs2
      subst ecs
      rw [tells_cons (hstep h)] at htot
      have ltot : found.length + (h.step cl).2.out.length + 2 ≤ 10000000 := by
        have := congrArg List.length htot
        simp only [List.length_append, List.length_cons] at this
        omega
      have hvp : (nl ms)[i]? = some (.int (p : Int)) := by unfold nl; rw [List.getElem?_map, hp]; rfl
      have hvn : (nl numb)[p]? = some (.int (n : Int)) := by unfold nl; rw [List.getElem?_map, hnb]; rfl
      refine ⟨fun σ2 H2 => ∃ i2, Loop c a H ms pd pf i2 σ2 H2 ∧ ms.length - i2 < ms.length - i, ?_, ?_⟩
      · rintro σ2 H2 ⟨i2, l1, l2⟩
        exact ⟨_, l2, i2, l1, rfl⟩
      -- sort = calls[at]
      refine ⟨_, rfl, _, rfl, a, _, (i : Int), _, rfl, rfl, hSq, atI_nat hvp, ?_⟩
      -- some = answer(..)
      have ea1 : (i : Int) + 1 = ((i + 1 : Nat) : Int) := by omega
      have ea2 : (i : Int) + 1 + (n : Int) = ((i + 1 + n : Nat) : Int) := by omega
      refine ⟨_, rfl, _, rfl, _, rfl, _, rfl, _, _, rfl, rfl, _, rfl, _, rfl, _, _, rfl, rfl, _, rfl, aN, _, (p : Int), _, rfl, rfl, sN H', atI_nat hvn, _, _, rfl, rfl, _, rfl, a, _, rfl, hSq, fun pn npn => ?_⟩
      have ecut : cutV (nl ms) (some ((i : Int) + 1)) (some ((i : Int) + 1 + (n : Int))) = nl ((ms.drop (i + 1)).take n) := by
        rw [ea2, ea1, cutV_mid (by rw [nl_len]; omega)]
        unfold nl
        rw [List.map_take, List.map_drop]
      have s2 : Same H' (upd H' pn (.lst (cutV (nl ms) (some ((i : Int) + 1)) (some ((i : Int) + 1 + (n : Int)))))) := same_upd npn
      have hpn : (upd H' pn (.lst (cutV (nl ms) (some ((i : Int) + 1)) (some ((i : Int) + 1 + (n : Int)))))) pn = some (.lst (nl ((ms.drop (i + 1)).take n))) := by rw [upd_same, ecut]
      refine ⟨H0, pd, pn, h, p, _, cl, rfl, h1, h12, hcl, DH.mono s2, O, hpn, by omega, fun ps H2 D2 n2 hps => ?_⟩
      -- at += 1 + NUMBERS[sort]
      have hf2 := D2.same _ _ hf0
      have dps : ps ≠ pf := fun e => by
        rw [e, hf0] at n2
        cases n2
      refine ⟨_, rfl, _, rfl, aN, _, (p : Int), _, rfl, rfl, sN H2, atI_nat hvn, _, _, rfl, rfl, _, _, rfl, rfl, ?_⟩
      -- found.append(len(some))
      refine ⟨_, rfl, .inl ⟨rfl, _, SqL.of hf2⟩, _, rfl, ps, _, rfl, .inl (SqL.of hps), pf, _, _, rfl, rfl, hf2, ?_, ?_⟩
      · rw [List.length_map]
        exact bnd (by omega)
      -- found.extend(some)
      refine ⟨_, rfl, .inl ⟨rfl, _, SqL.of upd_same⟩, _, rfl, pf, ps, _, _, rfl, rfl, upd_same, by rw [upd_ne dps]; exact hps, ?_, ?_⟩
      · rw [List.length_append, List.length_map, List.length_map, List.length_singleton, List.length_cons]
        exact Nat.le_of_lt (bnd (by omega))
      rw [upd_upd]
      have eB : (found.map V.int ++ [V.int ((((((h.step cl).2.value :: (h.step cl).2.out).map V.int).length : Nat)) : Int)]) ++ ((h.step cl).2.value :: (h.step cl).2.out).map V.int = (found ++ ((((((h.step cl).2.value :: (h.step cl).2.out).length : Nat)) : Int) :: ((h.step cl).2.value :: (h.step cl).2.out))).map V.int := by
        rw [List.length_map, List.map_append, List.map_cons, List.append_assoc]
        rfl
      rw [eB]
      refine ⟨i + 1 + n, ⟨upd H0 pf (.lst ((found ++ ((((((h.step cl).2.value :: (h.step cl).2.out).length : Nat)) : Int) :: ((h.step cl).2.value :: (h.step cl).2.out))).map V.int)), (h.step cl).1, _, cs2, f2, some (.int (p : Int)), some (.ref ps), ?_, same_new sH nHf, upd_same, D2.put_found hf0, O.step cl, hl1, hcs2, ?_⟩, by omega⟩
      · have e3 : (i : Int) + (1 + (n : Int)) = ((i + 1 + n : Nat) : Int) := by omega
        show [some (V.ref a), some (V.ref pd), some (V.ref pf), some (V.int ((i : Int) + (1 + (n : Int)))), some (V.int (p : Int)), some (V.ref ps)] = _
        rw [e3]
      · rw [← htot, List.append_assoc]
    · refine if_false_of (decide_eq_false hlt) ⟨_, rfl, k H' pf ?_⟩
      have ei : ms.drop i = [] := List.drop_eq_nil_of_le (by omega)
      rw [ei] at hcs
      have := calls_nil (show PyFlat.calls PySq34.shape ff [] = some cs from hcs)
      subst this
      rw [tells_nil, List.append_nil] at htot
      rw [← htot]
      exact hf'
end
end Pv
end
section
set_option maxRecDepth 100000
set_option maxHeartbeats 4000000
namespace Pv
open PySem PySem.Spec PyProof.Rows L2 PvR
/-! ### what the top has written, as the head finds it -/
/-- a def's object -/
def ObjAt (K : PySem.W.Frag) (x q : Str) (st : Stmt) (f : Addr) : Prop := ∃ (oc : Value) (od : Option Addr) (kV doc pm : Value) (an : Option Addr) (cd ct : Value) (sl : Array (Option Value)),
  K.lookup f = some ⟨oc, od, .func (PySem.W.fnOf x q (defArgs st) (defBody st) (defScope st) .none kV doc pm an cd ct), sl⟩ ∧ PySem.W.codeIn K cd q = true ∧ PySem.W.keepIn K (.ref f) = true
def FnAt (K : PySem.W.Frag) (x : Str) (st : Stmt) : Prop := ∃ f : Addr, PySem.W.nsIn K mainGlobals x = some (some (.ref f)) ∧ ObjAt K x x st f
def NumAt (K : PySem.W.Frag) (x : Str) (i : Int) : Prop := ∃ t : Tok, PySem.W.nsIn K mainGlobals x = some (some (.int i t))
def NoneAt (K : PySem.W.Frag) (x : Str) : Prop := PySem.W.nsIn K mainGlobals x = some none
/-- an own class's object, its __init__ -/
def ClsAt (K : PySem.W.Frag) (x q : Str) (st : Stmt) (C : Addr) : Prop := PySem.W.nsIn K mainGlobals x = some (some (.ref C)) ∧ PySem.W.plainGet K C Str.empty = true ∧ PySem.W.hasDictIn K C = true ∧ PySem.W.plainOver K C = true ∧
  PySem.W.findIn K (.ref C) "__setattr__" = some (some (.builtin "object.__setattr__")) ∧ PySem.W.makesIn K C = true ∧ PySem.W.keepIn K (.ref C) = true ∧ ∃ f : Addr, PySem.W.findIn K (.ref C) "__init__" = some (some (.ref f)) ∧ PySem.W.isFn K (.ref f) = true ∧ ObjAt K "__init__" q st f
theorem ObjAt.fn {K : PySem.W.Frag} {x q : Str} {st : Stmt} {f : Addr} (h : ObjAt K x q st f) : ∃ fd, Fun K x q st f fd := by
  obtain ⟨oc, od, kV, doc, pm, an, cd, ct, sl, h1, h2, h3⟩ := h
  exact ⟨_, fun_mk h1 h2 h3⟩
theorem FnAt.at_ {K : PySem.W.Frag} {h : Heap} {mg : Str → Option Value} {x : Str} {st : Stmt} (X : K.In h) (G : h.Ns mainGlobals mg) (e : FnAt K x st) : DefAt K mg x st := by
  obtain ⟨f, h1, h2⟩ := e
  obtain ⟨fd, h3⟩ := h2.fn
  exact ⟨f, fd, PySem.W.mg_of X G h1, h3⟩
theorem NumAt.num {K : PySem.W.Frag} {h : Heap} {mg : Str → Option Value} {x : Str} {i : Int} (X : K.In h) (G : h.Ns mainGlobals mg) (e : NumAt K x i) : Num mg x i := by
  obtain ⟨t, h1⟩ := e
  exact ⟨t, PySem.W.mg_of X G h1⟩
theorem NoneAt.none_ {K : PySem.W.Frag} {h : Heap} {mg : Str → Option Value} {x : Str} (X : K.In h) (G : h.Ns mainGlobals mg) (e : NoneAt K x) : mg x = none := PySem.W.mg_none_of X G e
theorem ClsAt.cls {K : PySem.W.Frag} {x q : Str} {st : Stmt} {C : Addr} (h : ClsAt K x q st C) : Cls K C := ⟨h.2.1, h.2.2.1, h.2.2.2.1, h.2.2.2.2.1⟩
theorem ClsAt.mk_ {K : PySem.W.Frag} {x q : Str} {st : Stmt} {C : Addr} (h : ClsAt K x q st C) : ∃ f fd, Mk K C f ∧ Fun K "__init__" q st f fd := by
  obtain ⟨_, _, _, _, _, h6, h7, f, h8, h9, h10⟩ := h
  obtain ⟨fd, h11⟩ := h10.fn
  exact ⟨f, fd, ⟨h6, h8, h9, h7⟩, h11⟩
/-- an error of the class at S is what «except S» names -/
theorem exm_self {K : PySem.W.Frag} {S : Addr} (h1 : PySem.W.subIn K (.ref S) (.type "BaseException") = some true) (h2 : PySem.W.isClsIn K S = true) (h3 : PySem.W.typeIn K (.ref S) = some (.type "type")) (h4 : PySem.W.subIn K (.ref S) (.ref S) = some true) :
    PySem.W.exmOne K (.ref S) (.ref S) = some true := by
  have e1 : (PySem.W.subIn K (.ref S) (.type "BaseException") == some true) = true := by rw [h1] <;> rfl
  have e2 : ((PySem.W.clsIn K S).isSome && PySem.W.typeIn K (.ref S) == some (.type "type")) = true := by
    have h2' : (PySem.W.clsIn K S).isSome = true := h2
    rw [h2', h3] <;> rfl
  show (if (PySem.W.subIn K (.ref S) (.type "BaseException") == some true) = true then (if ((PySem.W.clsIn K S).isSome && PySem.W.typeIn K (.ref S) == some (.type "type")) = true then PySem.W.subIn K (.ref S) (.ref S) else none) else none) = some true
  rw [if_pos e1, if_pos e2]
  exact h4
/-- the refusal's class -/
def RefAt (K : PySem.W.Frag) (C f1 : Addr) : Prop := ∃ (nm q : Str) (N : Addr) (bs : List Value) (sn : List Str) (sub : List Value) (ab : Bool) (col : Option Bool) (dd : Option Addr) (m0 m1 m2 m3 m5 : Option Value) (od1 an1 : Option Addr) (sl1 : Array (Option Value)) (oc1 dc1 pm1 cd1 ct1 : Value),
  PySem.W.nsIn K mainGlobals "Refusal" = some (some (.ref C)) ∧
  K.lookup C = some (excClassObj nm q C N bs [.type "ValueError", .type "Exception", .type "BaseException", .type "object"] true sn sub ab col dd m0 m1 m2 m3 m5 "ValueError.__new__") ∧
  PySem.W.findIn K (.ref C) "__setattr__" = some (some (.builtin "object.__setattr__")) ∧ PySem.W.findIn K (.ref C) "__getattribute__" = some (some (.builtin "BaseException.__getattribute__")) ∧ PySem.W.findIn K (.ref C) "__getattr__" = some none ∧ PySem.W.findIn K (.ref C) "code" = some none ∧
  PySem.W.findIn K (.ref C) "__init__" = some (some (.ref f1)) ∧ PySem.W.typeIn K (.ref f1) = some (.type "function") ∧
  K.lookup f1 = some ⟨oc1, od1, .func (PySem.W.fnOf "__init__" "Refusal.__init__" (PySem.RefX.iA ⟨99, 17, 99, 21⟩ ⟨99, 23, 99, 27⟩) (PySem.RefX.iB ⟨100, 8, 100, 12⟩ ⟨100, 8, 100, 17⟩ ⟨100, 20, 100, 24⟩ ⟨100, 8, 100, 24⟩) PySem.RefX.iS .none .none dc1 pm1 an1 cd1 ct1), sl1⟩ ∧ PySem.W.codeIn K cd1 "Refusal.__init__" = true ∧
  PySem.W.keepIn K (.ref C) = true ∧ PySem.W.subIn K (.ref C) (.type "BaseException") = some true ∧ PySem.W.typeIn K (.ref C) = some (.type "type") ∧ PySem.W.hasDictIn K C = true ∧ PySem.W.isClsIn K C = true ∧ PySem.W.subIn K (.ref C) (.ref C) = some true
theorem RefAt.txt {K : PySem.W.Frag} {h : Heap} {mg : Str → Option Value} {C f1 : Addr} (X : K.In h) (G : h.Ns mainGlobals mg) (e : RefAt K C f1) : PySem.RefX.RefTxt K mg C f1 := by
  obtain ⟨nm, q, N, bs, sn, sub, ab, col, dd, m0, m1, m2, m3, m5, od1, an1, sl1, oc1, dc1, pm1, cd1, ct1, aC, xL, sa, ga, gg, nb, a1, t1, l1, c1, kC, eC, tC, hC, iC, sC⟩ := e
  exact { gC := PySem.W.mg_of X G aC, cls := ⟨nm, q, N, bs, _, sn, sub, ab, col, dd, m0, m1, m2, m3, m5, xL, by decide +kernel⟩, sa := sa, ga := ga, gg := gg, noN := nb, iC := a1, tC := t1, kC := kC, exC := eC, tyC := tC, hdC := hC, te := exm_self eC iC tC sC, fn := ⟨_, _, _, _, _, _, _, _, _, _, _, _, _, _, l1, c1⟩ }
def DeedsAt (K : PySem.W.Frag) : Prop := ∃ (D b1 b2 b3 b4 b5 b6 b7 b8 b9 b10 b11 b12 : Addr) (od : Option Addr) (nd : Nat) (sl : Array (Option Value)), PySem.W.nsIn K mainGlobals "DEEDS" = some (some (.ref D)) ∧ K.lookup D = some ⟨.type "tuple", od, .seq #[.ref b1, .ref b2, .ref b3, .ref b4, .ref b5, .ref b6, .ref b7, .ref b8, .ref b9, .ref b10, .ref b11, .ref b12] nd, sl⟩ ∧
  PySem.W.nsIn K mainGlobals "begin" = some (some (.ref b1)) ∧ PySem.W.nsIn K mainGlobals "move_made" = some (some (.ref b2)) ∧ PySem.W.nsIn K mainGlobals "deliver" = some (some (.ref b3)) ∧ PySem.W.nsIn K mainGlobals "sync" = some (some (.ref b4)) ∧ PySem.W.nsIn K mainGlobals "tree_at" = some (some (.ref b5)) ∧ PySem.W.nsIn K mainGlobals "ancestors" = some (some (.ref b6)) ∧ PySem.W.nsIn K mainGlobals "moved_by" = some (some (.ref b7)) ∧ PySem.W.nsIn K mainGlobals "differences" = some (some (.ref b8)) ∧ PySem.W.nsIn K mainGlobals "history" = some (some (.ref b9)) ∧ PySem.W.nsIn K mainGlobals "since" = some (some (.ref b10)) ∧ PySem.W.nsIn K mainGlobals "surprises" = some (some (.ref b11)) ∧ PySem.W.nsIn K mainGlobals "known" = some (some (.ref b12))
def NumbersAt (K : PySem.W.Frag) : Prop := ∃ (N : Addr) (od : Option Addr) (nd : Nat) (sl : Array (Option Value)) (t0 t1 t2 t3 t4 t5 t6 t7 t8 t9 t10 t11 t12 : Tok), PySem.W.nsIn K mainGlobals "NUMBERS" = some (some (.ref N)) ∧ K.lookup N = some ⟨.type "tuple", od, .seq #[.int 0 t0, .int 1 t1, .int 4 t2, .int 2 t3, .int 2 t4, .int 4 t5, .int 5 t6, .int 5 t7, .int 7 t8, .int 2 t9, .int 2 t10, .int 1 t11, .int 1 t12] nd, sl⟩
theorem tabs_of {K : PySem.W.Frag} {h : Heap} {mg : Str → Option Value} (X : K.In h) (G : h.Ns mainGlobals mg) (a : DeedsAt K) (b : NumbersAt K) : Tabs K mg := by
  obtain ⟨D, b1, b2, b3, b4, b5, b6, b7, b8, b9, b10, b11, b12, od, nd, sl, aD, lD, a1, a2, a3, a4, a5, a6, a7, a8, a9, a10, a11, a12⟩ := a
  obtain ⟨N, on, nn, sn, t0, t1, t2, t3, t4, t5, t6, t7, t8, t9, t10, t11, t12, aN, lN⟩ := b
  refine ⟨⟨D, [b1, b2, b3, b4, b5, b6, b7, b8, b9, b10, b11, b12], PySem.W.mg_of X G aD, fun H => .inr ⟨_, _, _, lD, rfl, rfl, by show 12 ≤ sizeLine; decide, (.cons rfl (.cons rfl (.cons rfl (.cons rfl (.cons rfl (.cons rfl (.cons rfl (.cons rfl (.cons rfl (.cons rfl (.cons rfl (.cons rfl .nil))))))))))))⟩, ?_⟩, ⟨N, PySem.W.mg_of X G aN, fun H => .inr ⟨_, _, _, lN, rfl, rfl, by show 13 ≤ sizeLine; decide, (.cons ⟨t0, rfl⟩ (.cons ⟨t1, rfl⟩ (.cons ⟨t2, rfl⟩ (.cons ⟨t3, rfl⟩ (.cons ⟨t4, rfl⟩ (.cons ⟨t5, rfl⟩ (.cons ⟨t6, rfl⟩ (.cons ⟨t7, rfl⟩ (.cons ⟨t8, rfl⟩ (.cons ⟨t9, rfl⟩ (.cons ⟨t10, rfl⟩ (.cons ⟨t11, rfl⟩ (.cons ⟨t12, rfl⟩ .nil)))))))))))))⟩⟩⟩
  show [some (Value.ref b1), some (Value.ref b2), some (Value.ref b3), some (Value.ref b4), some (Value.ref b5), some (Value.ref b6), some (Value.ref b7), some (Value.ref b8), some (Value.ref b9), some (Value.ref b10), some (Value.ref b11), some (Value.ref b12)] = [mg "begin", mg "move_made", mg "deliver", mg "sync", mg "tree_at", mg "ancestors", mg "moved_by", mg "differences", mg "history", mg "since", mg "surprises", mg "known"]
  rw [PySem.W.mg_of X G a1, PySem.W.mg_of X G a2, PySem.W.mg_of X G a3, PySem.W.mg_of X G a4, PySem.W.mg_of X G a5, PySem.W.mg_of X G a6, PySem.W.mg_of X G a7, PySem.W.mg_of X G a8, PySem.W.mg_of X G a9, PySem.W.mg_of X G a10, PySem.W.mg_of X G a11, PySem.W.mg_of X G a12]
/-- all that the head finds -/
structure Facts (K : PySem.W.Frag) : Prop where
  f_stamp : FnAt K "stamp" sStamp
  f_first_tree : FnAt K "first_tree" sFirst
  f_is_there : FnAt K "is_there" sThere
  f_path_of : FnAt K "path_of" sPath
  f_outcome_of : FnAt K "outcome_of" sOutcome
  f_in_order : FnAt K "in_order" sOrder
  f_result_of : FnAt K "result_of" sResult
  f_tree_of : FnAt K "tree_of" sTree
  f_done_of : FnAt K "done_of" sDone
  f_children_of : FnAt K "children_of" sKids
  f_below_root : FnAt K "below_root" sBelow
  f_unlike : FnAt K "unlike" sUnlike
  f_knows : FnAt K "knows" sKnows
  f_next_counter : FnAt K "next_counter" sNext
  f_not_known : FnAt K "not_known" sNot
  f_view_moves : FnAt K "view_moves" sView
  f_seen : FnAt K "seen" sSeen
  f_since_when : FnAt K "since_when" sSince
  f_has_surprised : FnAt K "has_surprised" sSurp
  f_ask : FnAt K "ask" sAsk
  f_ask_replica : FnAt K "ask_replica" sAskR
  f_ask_known : FnAt K "ask_known" sAskK
  f_ask_place : FnAt K "ask_place" sAskP
  f_asked_view : FnAt K "asked_view" sAView
  f_asked_tree : FnAt K "asked_tree" sATree
  f_ask_there : FnAt K "ask_there" sAskT
  f_counted : FnAt K "counted" sCounted
  f_begin : FnAt K "begin" sBegin
  f_move_made : FnAt K "move_made" sMade
  f_deliver : FnAt K "deliver" sDel
  f_sync : FnAt K "sync" sSync
  f_tree_at : FnAt K "tree_at" sTreeAt
  f_ancestors : FnAt K "ancestors" sAnc
  f_moved_by : FnAt K "moved_by" sMovedBy
  f_differences : FnAt K "differences" sDiff
  f_history : FnAt K "history" sHist
  f_since : FnAt K "since" sSinceD
  f_surprises : FnAt K "surprises" sSurpD
  f_known : FnAt K "known" sKnown
  f_answer : FnAt K "answer" sAnswer
  f_answers : FnAt K "answers" sAnswers
  n_ROOT : NumAt K "ROOT" (0)
  n_FIRST_MOVABLE : NumAt K "FIRST_MOVABLE" (2)
  n_NODES : NumAt K "NODES" (64)
  n_DONE : NumAt K "DONE" (1)
  n_NO_PARENT : NumAt K "NO_PARENT" (2)
  n_CIRCLE : NumAt K "CIRCLE" (3)
  n_MOST_REPLICAS : NumAt K "MOST_REPLICAS" (8)
  n_MOST_LABEL : NumAt K "MOST_LABEL" (1000000000)
  n_OUT_OF_RANGE : NumAt K "OUT_OF_RANGE" (-1)
  n_NO_SUCH : NumAt K "NO_SUCH" (-2)
  n_NOT_THERE : NumAt K "NOT_THERE" (-3)
  n_MOST_MOVES : NumAt K "MOST_MOVES" (80)
  n_FULL : NumAt K "FULL" (-5)
  z_len : NoneAt K "len"
  z_range : NoneAt K "range"
  z_zip : NoneAt K "zip"
  z_enumerate : NoneAt K "enumerate"
  z_max : NoneAt K "max"
  z_sorted : NoneAt K "sorted"
  move : ∃ C, ClsAt K "Move" "Move.__init__" sMove C ∧ PySem.W.findIn K (.ref C) "number" = some none ∧ PySem.W.findIn K (.ref C) "counter" = some none ∧ PySem.W.findIn K (.ref C) "origin" = some none ∧ PySem.W.findIn K (.ref C) "node" = some none ∧ PySem.W.findIn K (.ref C) "parent" = some none ∧ PySem.W.findIn K (.ref C) "label" = some none
  world : ∃ C, ClsAt K "World" "World.__init__" sWorld C ∧ PySem.W.findIn K (.ref C) "moves" = some none ∧ PySem.W.findIn K (.ref C) "learned" = some none
  desk : ∃ C, ClsAt K "Desk" "Desk.__init__" sDesk C ∧ PySem.W.findIn K (.ref C) "world" = some none
  refusal : ∃ C f, RefAt K C f
  deeds : DeedsAt K
  numbers : NumbersAt K
theorem all_mk {P : Program} {w : World} {K : PySem.W.Frag} {h : Heap} {mg : Str → Option Value} {fa : Addr} (X : K.In h) (G : h.Ns mainGlobals mg) (hfa : mg "answers" = some (.ref fa)) (A : Facts K) :
    ∃ fd : FuncData, (∀ (s : Shared) (us : List Value), us.length = (["calls"] : List Str).length → BindsTo s fd ⟨us, []⟩ ((["calls"] : List Str).zip us)) ∧ ∀ base : Heap, K.In base → base.Ns mainGlobals mg → FnOk P w K mg base CX0 11 fa fd ["calls"] (spAnswers K) := by
  obtain ⟨M, cM, aM1, aM2, aM3, aM4, aM5, aM6⟩ := A.move
  obtain ⟨W, cW, aW1, aW2⟩ := A.world
  obtain ⟨D, cD, aD1⟩ := A.desk
  obtain ⟨R, fR, cR⟩ := A.refusal
  have B := tabs_of X G A.deeds A.numbers
  have T : Txt K mg ⟨M, W, R, D⟩ fR := { clM := cM.cls, nNumber := aM1, nCounter := aM2, nOrigin := aM3, nNode := aM4, nParent := aM5, nLabel := aM6, gM := PySem.W.mg_of X G cM.1, clW := cW.cls, nMoves := aW1, nLearned := aW2, gW := PySem.W.mg_of X G cW.1, clD := cD.cls, nWorld := aD1, gD := PySem.W.mg_of X G cD.1, ref := cR.txt X G, root := A.n_ROOT.num X G, first := A.n_FIRST_MOVABLE.num X G, nodes := A.n_NODES.num X G, done := A.n_DONE.num X G, noParent := A.n_NO_PARENT.num X G, circle := A.n_CIRCLE.num X G, mostRep := A.n_MOST_REPLICAS.num X G, mostLab := A.n_MOST_LABEL.num X G, outRange := A.n_OUT_OF_RANGE.num X G, noSuch := A.n_NO_SUCH.num X G, notThere := A.n_NOT_THERE.num X G, mostMov := A.n_MOST_MOVES.num X G, full := A.n_FULL.num X G, len := A.z_len.none_ X G, range := A.z_range.none_ X G, zip := A.z_zip.none_ X G, enumerate := A.z_enumerate.none_ X G, max := A.z_max.none_ X G, sorted := A.z_sorted.none_ X G }
  have D_stamp := A.f_stamp.at_ X G
  have D_first_tree := A.f_first_tree.at_ X G
  have D_is_there := A.f_is_there.at_ X G
  have D_path_of := A.f_path_of.at_ X G
  have D_outcome_of := A.f_outcome_of.at_ X G
  have D_in_order := A.f_in_order.at_ X G
  have D_result_of := A.f_result_of.at_ X G
  have D_tree_of := A.f_tree_of.at_ X G
  have D_done_of := A.f_done_of.at_ X G
  have D_children_of := A.f_children_of.at_ X G
  have D_below_root := A.f_below_root.at_ X G
  have D_unlike := A.f_unlike.at_ X G
  have D_knows := A.f_knows.at_ X G
  have D_next_counter := A.f_next_counter.at_ X G
  have D_not_known := A.f_not_known.at_ X G
  have D_view_moves := A.f_view_moves.at_ X G
  have D_seen := A.f_seen.at_ X G
  have D_since_when := A.f_since_when.at_ X G
  have D_has_surprised := A.f_has_surprised.at_ X G
  have D_ask := A.f_ask.at_ X G
  have D_ask_replica := A.f_ask_replica.at_ X G
  have D_ask_known := A.f_ask_known.at_ X G
  have D_ask_place := A.f_ask_place.at_ X G
  have D_asked_view := A.f_asked_view.at_ X G
  have D_asked_tree := A.f_asked_tree.at_ X G
  have D_ask_there := A.f_ask_there.at_ X G
  have D_counted := A.f_counted.at_ X G
  have D_begin := A.f_begin.at_ X G
  have D_move_made := A.f_move_made.at_ X G
  have D_deliver := A.f_deliver.at_ X G
  have D_sync := A.f_sync.at_ X G
  have D_tree_at := A.f_tree_at.at_ X G
  have D_ancestors := A.f_ancestors.at_ X G
  have D_moved_by := A.f_moved_by.at_ X G
  have D_differences := A.f_differences.at_ X G
  have D_history := A.f_history.at_ X G
  have D_since := A.f_since.at_ X G
  have D_surprises := A.f_surprises.at_ X G
  have D_known := A.f_known.at_ X G
  have D_answer := A.f_answer.at_ X G
  obtain ⟨f0, nf0, o0⟩ := A.f_answers
  have e0 := hfa.symm.trans (PySem.W.mg_of X G nf0)
  cases e0
  obtain ⟨oc, od, kV, doc, pm, an, cd, ct, sl, l0, c0, k0⟩ := o0
  have F0 := fun_mk (st := sAnswers) l0 c0 k0
  obtain ⟨fM, fdM, mM, FM⟩ := cM.mk_
  obtain ⟨fW, fdW, mW, FW⟩ := cW.mk_
  obtain ⟨fD, fdD, mD, FD⟩ := cD.mk_
  refine ⟨PySem.W.fnOf "answers" "answers" (defArgs sAnswers) (defBody sAnswers) (defScope sAnswers) .none kV doc pm an cd ct, fun s us hu => match us, hu with | [_], _ => .of_eq rfl, fun base _ _ => ?_⟩
  have XM : DefM P w K mg base ⟨M, W, R, D⟩ := ⟨fM, fdM, mM, FM.binds (fun _ _ _ _ _ _ us hl => match us, hl with | [_, _, _, _, _, _, _], _ => rfl), ok_move FM T⟩
  have XW : DefW P w K mg base ⟨M, W, R, D⟩ := ⟨fW, fdW, mW, FW.binds (fun _ _ _ _ _ _ us hl => match us, hl with | [_, _], _ => rfl), ok_world FW T⟩
  have XD : DefD P w K mg base ⟨M, W, R, D⟩ := ⟨fD, fdD, mD, FD.binds (fun _ _ _ _ _ _ us hl => match us, hl with | [_], _ => rfl), ok_desk FD T XW⟩
  have E_stamp := d_stamp (P := P) (w := w) (base := base) T D_stamp
  have E_first := d_first (P := P) (w := w) (base := base) T D_first_tree
  have E_there := d_there (P := P) (w := w) (base := base) T D_is_there
  have E_path := d_path (P := P) (w := w) (base := base) T D_path_of
  have E_outcome := d_outcome T D_outcome_of E_there E_path
  have E_order := d_order T D_in_order E_stamp
  have E_result := d_result T D_result_of E_first E_order E_outcome
  have E_tree := d_tree D_tree_of E_result
  have E_done := d_done T D_done_of E_result E_order
  have E_kids := d_kids (P := P) (w := w) (base := base) T D_children_of
  have E_below := d_below T D_below_root E_kids
  have E_unlike := d_unlike (P := P) (w := w) (base := base) T D_unlike
  have E_knows := d_knows (P := P) (w := w) (base := base) T D_knows
  have E_next := d_next (P := P) (w := w) (base := base) T D_next_counter
  have E_not := d_not T D_not_known E_knows E_order
  have E_view := d_view T D_view_moves E_stamp
  have E_seen := d_seen T D_seen E_tree
  have E_since := d_since T D_since_when E_seen
  have E_surp := d_surp T D_has_surprised E_seen E_unlike
  have E_ask := d_ask (P := P) (w := w) (base := base) T D_ask
  have E_askR := d_askR T D_ask_replica E_ask
  have E_askK := d_askK T D_ask_known E_ask
  have E_askP := d_askP T D_ask_place E_ask
  have E_aview := d_aview T D_asked_view E_askR E_askK E_view
  have E_atree := d_atree D_asked_tree E_aview E_tree
  have E_askT := d_askT T D_ask_there E_ask E_there
  have E_counted := d_counted (P := P) (w := w) (base := base) T D_counted
  have G1 := d_begin T D_begin E_ask XW
  have G2 := d_made T D_move_made E_ask E_askR E_askP XM E_next E_result
  have G3 := d_del T D_deliver E_ask E_askR E_knows
  have G4 := d_sync T D_sync E_askR E_not
  have G5 := d_treeAt T D_tree_at E_atree E_below
  have G6 := d_anc T D_ancestors E_atree E_askT E_counted E_path
  have G7 := d_movedBy T D_moved_by E_aview E_ask E_done
  have G8 := d_diff T D_differences E_atree E_askK E_tree E_view E_counted E_unlike
  have G9 := d_hist T D_history E_askR E_done
  have G10 := d_sinceD T D_since E_askR E_ask E_since
  have G11 := d_surpD T D_surprises E_askR E_counted E_surp
  have G12 := d_known T D_known E_askR E_counted
  have E_answer := d_answer (P := P) (w := w) (base := base) T B D_answer (fun q h1 h12 b hb => by
    have hq : q = 1 ∨ q = 2 ∨ q = 3 ∨ q = 4 ∨ q = 5 ∨ q = 6 ∨ q = 7 ∨ q = 8 ∨ q = 9 ∨ q = 10 ∨ q = 11 ∨ q = 12 := by omega
    have held : ∀ {x : Str} {sp : Sp}, DefX P w K mg base 9 x ["desk", "numbers"] sp → mg x = some (.ref b) → HeldX P w K mg base 9 b sp := fun {x sp} g hx => by
      obtain ⟨f, fd, hm, kp, bi, F⟩ := g
      have e := hm.symm.trans hx
      cases e
      exact ⟨fd, _, F, kp, bi⟩
    rcases hq with rfl | rfl | rfl | rfl | rfl | rfl | rfl | rfl | rfl | rfl | rfl | rfl
    · exact held G1 hb
    · exact held G2 hb
    · exact held G3 hb
    · exact held G4 hb
    · exact held G5 hb
    · exact held G6 hb
    · exact held G7 hb
    · exact held G8 hb
    · exact held G9 hb
    · exact held G10 hb
    · exact held G11 hb
    · exact held G12 hb
    )
  exact ok_answers T B F0 E_answer XD
end Pv
end
section
set_option maxRecDepth 100000
set_option maxHeartbeats 4000000
namespace Pv
open PySem PySem.Spec PyProof.Rows L2 PvR
/-! the same facts, their witnesses told by the head -/
theorem FnAt.intro {K : PySem.W.Frag} {x : Str} {st : Stmt} {f : Addr} {oc : Value} {od : Option Addr} {kV doc pm : Value} {an : Option Addr} {cd ct : Value} {sl : Array (Option Value)}
    (a : PySem.W.nsIn K mainGlobals x = some (some (.ref f))) (l : K.lookup f = some ⟨oc, od, .func (PySem.W.fnOf x x (defArgs st) (defBody st) (defScope st) .none kV doc pm an cd ct), sl⟩)
    (c : PySem.W.codeIn K cd x = true) (k : PySem.W.keepIn K (.ref f) = true) : FnAt K x st := ⟨f, a, oc, od, kV, doc, pm, an, cd, ct, sl, l, c, k⟩
theorem ClsAt.intro {K : PySem.W.Frag} {x q : Str} {st : Stmt} {C f : Addr} {oc : Value} {od : Option Addr} {kV doc pm : Value} {an : Option Addr} {cd ct : Value} {sl : Array (Option Value)}
    (a : PySem.W.nsIn K mainGlobals x = some (some (.ref C))) (pg : PySem.W.plainGet K C Str.empty = true) (hd : PySem.W.hasDictIn K C = true) (po : PySem.W.plainOver K C = true)
    (sa : PySem.W.findIn K (.ref C) "__setattr__" = some (some (.builtin "object.__setattr__"))) (mk : PySem.W.makesIn K C = true) (kc : PySem.W.keepIn K (.ref C) = true)
    (i : PySem.W.findIn K (.ref C) "__init__" = some (some (.ref f))) (fn : PySem.W.isFn K (.ref f) = true) (l : K.lookup f = some ⟨oc, od, .func (PySem.W.fnOf "__init__" q (defArgs st) (defBody st) (defScope st) .none kV doc pm an cd ct), sl⟩)
    (c : PySem.W.codeIn K cd q = true) (k : PySem.W.keepIn K (.ref f) = true) : ClsAt K x q st C := ⟨a, pg, hd, po, sa, mk, kc, f, i, fn, oc, od, kV, doc, pm, an, cd, ct, sl, l, c, k⟩
theorem NumAt.intro {K : PySem.W.Frag} {x : Str} {i : Int} {t : Tok} (a : PySem.W.nsIn K mainGlobals x = some (some (.int i t))) : NumAt K x i := ⟨t, a⟩
theorem move_intro {K : PySem.W.Frag} {C : Addr} (c : ClsAt K "Move" "Move.__init__" sMove C) (x0 : PySem.W.findIn K (.ref C) "number" = some none) (x1 : PySem.W.findIn K (.ref C) "counter" = some none) (x2 : PySem.W.findIn K (.ref C) "origin" = some none) (x3 : PySem.W.findIn K (.ref C) "node" = some none) (x4 : PySem.W.findIn K (.ref C) "parent" = some none) (x5 : PySem.W.findIn K (.ref C) "label" = some none) :
    ∃ C, ClsAt K "Move" "Move.__init__" sMove C ∧ PySem.W.findIn K (.ref C) "number" = some none ∧ PySem.W.findIn K (.ref C) "counter" = some none ∧ PySem.W.findIn K (.ref C) "origin" = some none ∧ PySem.W.findIn K (.ref C) "node" = some none ∧ PySem.W.findIn K (.ref C) "parent" = some none ∧ PySem.W.findIn K (.ref C) "label" = some none := ⟨C, c, x0, x1, x2, x3, x4, x5⟩
theorem world_intro {K : PySem.W.Frag} {C : Addr} (c : ClsAt K "World" "World.__init__" sWorld C) (x0 : PySem.W.findIn K (.ref C) "moves" = some none) (x1 : PySem.W.findIn K (.ref C) "learned" = some none) :
    ∃ C, ClsAt K "World" "World.__init__" sWorld C ∧ PySem.W.findIn K (.ref C) "moves" = some none ∧ PySem.W.findIn K (.ref C) "learned" = some none := ⟨C, c, x0, x1⟩
theorem desk_intro {K : PySem.W.Frag} {C : Addr} (c : ClsAt K "Desk" "Desk.__init__" sDesk C) (x0 : PySem.W.findIn K (.ref C) "world" = some none) :
    ∃ C, ClsAt K "Desk" "Desk.__init__" sDesk C ∧ PySem.W.findIn K (.ref C) "world" = some none := ⟨C, c, x0⟩
theorem RefAt.intro {K : PySem.W.Frag} {C f1 : Addr} {nm q : Str} {N : Addr} {bs : List Value} {sn : List Str} {sub : List Value} {ab : Bool} {col : Option Bool} {dd : Option Addr} {m0 m1 m2 m3 m5 : Option Value} {od1 an1 : Option Addr} {sl1 : Array (Option Value)} {oc1 dc1 pm1 cd1 ct1 : Value} (aC : PySem.W.nsIn K mainGlobals "Refusal" = some (some (.ref C))) (xL : K.lookup C = some (excClassObj nm q C N bs [.type "ValueError", .type "Exception", .type "BaseException", .type "object"] true sn sub ab col dd m0 m1 m2 m3 m5 "ValueError.__new__")) (sa : PySem.W.findIn K (.ref C) "__setattr__" = some (some (.builtin "object.__setattr__"))) (ga : PySem.W.findIn K (.ref C) "__getattribute__" = some (some (.builtin "BaseException.__getattribute__"))) (gg : PySem.W.findIn K (.ref C) "__getattr__" = some none) (nb : PySem.W.findIn K (.ref C) "code" = some none) (a1 : PySem.W.findIn K (.ref C) "__init__" = some (some (.ref f1))) (t1 : PySem.W.typeIn K (.ref f1) = some (.type "function")) (l1 : K.lookup f1 = some ⟨oc1, od1, .func (PySem.W.fnOf "__init__" "Refusal.__init__" (PySem.RefX.iA ⟨99, 17, 99, 21⟩ ⟨99, 23, 99, 27⟩) (PySem.RefX.iB ⟨100, 8, 100, 12⟩ ⟨100, 8, 100, 17⟩ ⟨100, 20, 100, 24⟩ ⟨100, 8, 100, 24⟩) PySem.RefX.iS .none .none dc1 pm1 an1 cd1 ct1), sl1⟩) (c1 : PySem.W.codeIn K cd1 "Refusal.__init__" = true) (kC : PySem.W.keepIn K (.ref C) = true) (eC : PySem.W.subIn K (.ref C) (.type "BaseException") = some true) (tC : PySem.W.typeIn K (.ref C) = some (.type "type")) (hC : PySem.W.hasDictIn K C = true) (iC : PySem.W.isClsIn K C = true) (sC : PySem.W.subIn K (.ref C) (.ref C) = some true) : ∃ C f, RefAt K C f := ⟨C, f1, nm, q, N, bs, sn, sub, ab, col, dd, m0, m1, m2, m3, m5, od1, an1, sl1, oc1, dc1, pm1, cd1, ct1, aC, xL, sa, ga, gg, nb, a1, t1, l1, c1, kC, eC, tC, hC, iC, sC⟩
theorem DeedsAt.intro {K : PySem.W.Frag} {D b1 b2 b3 b4 b5 b6 b7 b8 b9 b10 b11 b12 : Addr} {od : Option Addr} {nd : Nat} {sl : Array (Option Value)} (aD : PySem.W.nsIn K mainGlobals "DEEDS" = some (some (.ref D))) (lD : K.lookup D = some ⟨.type "tuple", od, .seq #[.ref b1, .ref b2, .ref b3, .ref b4, .ref b5, .ref b6, .ref b7, .ref b8, .ref b9, .ref b10, .ref b11, .ref b12] nd, sl⟩) (w1 : PySem.W.nsIn K mainGlobals "begin" = some (some (.ref b1))) (w2 : PySem.W.nsIn K mainGlobals "move_made" = some (some (.ref b2))) (w3 : PySem.W.nsIn K mainGlobals "deliver" = some (some (.ref b3))) (w4 : PySem.W.nsIn K mainGlobals "sync" = some (some (.ref b4))) (w5 : PySem.W.nsIn K mainGlobals "tree_at" = some (some (.ref b5))) (w6 : PySem.W.nsIn K mainGlobals "ancestors" = some (some (.ref b6))) (w7 : PySem.W.nsIn K mainGlobals "moved_by" = some (some (.ref b7))) (w8 : PySem.W.nsIn K mainGlobals "differences" = some (some (.ref b8))) (w9 : PySem.W.nsIn K mainGlobals "history" = some (some (.ref b9))) (w10 : PySem.W.nsIn K mainGlobals "since" = some (some (.ref b10))) (w11 : PySem.W.nsIn K mainGlobals "surprises" = some (some (.ref b11))) (w12 : PySem.W.nsIn K mainGlobals "known" = some (some (.ref b12))) : DeedsAt K := ⟨D, b1, b2, b3, b4, b5, b6, b7, b8, b9, b10, b11, b12, od, nd, sl, aD, lD, w1, w2, w3, w4, w5, w6, w7, w8, w9, w10, w11, w12⟩
theorem NumbersAt.intro {K : PySem.W.Frag} {N : Addr} {od : Option Addr} {nd : Nat} {sl : Array (Option Value)} {t0 t1 t2 t3 t4 t5 t6 t7 t8 t9 t10 t11 t12 : Tok} (aN : PySem.W.nsIn K mainGlobals "NUMBERS" = some (some (.ref N))) (lN : K.lookup N = some ⟨.type "tuple", od, .seq #[.int 0 t0, .int 1 t1, .int 4 t2, .int 2 t3, .int 2 t4, .int 4 t5, .int 5 t6, .int 5 t7, .int 7 t8, .int 2 t9, .int 2 t10, .int 1 t11, .int 1 t12] nd, sl⟩) : NumbersAt K := ⟨N, od, nd, sl, t0, t1, t2, t3, t4, t5, t6, t7, t8, t9, t10, t11, t12, aN, lN⟩
end Pv
end
section
set_option maxRecDepth 100000
set_option maxHeartbeats 4000000
namespace Pv
open PySem PySem.Spec PyProof.Rows L2 PvR
theorem iz_toNat {l : List Int} (h : ∀ x ∈ l, 0 ≤ x) : iz (l.map Int.toNat) = l := by
  unfold iz
  rw [List.map_map]
  have : l.map ((fun (n : Nat) => (n : Int)) ∘ Int.toNat) = l.map id := List.map_congr_left fun x hx => Int.toNat_of_nonneg (h x hx)
  rw [this, List.map_id]
theorem nl_iz (l : List Nat) : nl l = (iz l).map V.int := nl_ints l
end Pv
open PySem PySem.W PyProof.Rows
set_option maxRecDepth 100000 in
set_option maxHeartbeats 0 in
theorem PySem.Challenge.cw_pastviews_s01_answers_holds : PySem.Challenge.rw_pastviews_s01_answers.Holds := by
  w_on; k_headS; (case hw => exact ⟨[.list [.int 12, .int 0]], by decide +kernel, by decide +kernel⟩)
  k_fillS
  refine L2.walk_specK (r := PySem.Challenge.rw_pastviews_s01_answers) (k := 11) (CX := L2.CX0) (ps := ["calls"]) (sp := Pv.spAnswers) (by decide +kernel) rfl rfl ⟨rfl, by decide, by decide⟩ (fun w h Y => PySem.W.kIn_of Y) ?F ?S (fun _ _ _ _ z => z)
  case F =>
    intro w mg fa h Y KX G hmg
    refine' Pv.all_mk KX G hmg (Pv.Facts.mk ?f_stamp ?f_first_tree ?f_is_there ?f_path_of ?f_outcome_of ?f_in_order ?f_result_of ?f_tree_of ?f_done_of ?f_children_of ?f_below_root ?f_unlike ?f_knows ?f_next_counter ?f_not_known ?f_view_moves ?f_seen ?f_since_when ?f_has_surprised ?f_ask ?f_ask_replica ?f_ask_known ?f_ask_place ?f_asked_view ?f_asked_tree ?f_ask_there ?f_counted ?f_begin ?f_move_made ?f_deliver ?f_sync ?f_tree_at ?f_ancestors ?f_moved_by ?f_differences ?f_history ?f_since ?f_surprises ?f_known ?f_answer ?f_answers ?n_ROOT ?n_FIRST_MOVABLE ?n_NODES ?n_DONE ?n_NO_PARENT ?n_CIRCLE ?n_MOST_REPLICAS ?n_MOST_LABEL ?n_OUT_OF_RANGE ?n_NO_SUCH ?n_NOT_THERE ?n_MOST_MOVES ?n_FULL ?z_len ?z_range ?z_zip ?z_enumerate ?z_max ?z_sorted ?move ?world ?desk ?refusal ?deeds ?numbers)
    case f_stamp => refine' Pv.FnAt.intro ?a ?l ?c ?k; (case a => k_is); (case l => k_is); (case c => k_is); (case k => k_is)
    case f_first_tree => refine' Pv.FnAt.intro ?a ?l ?c ?k; (case a => k_is); (case l => k_is); (case c => k_is); (case k => k_is)
    case f_is_there => refine' Pv.FnAt.intro ?a ?l ?c ?k; (case a => k_is); (case l => k_is); (case c => k_is); (case k => k_is)
    case f_path_of => refine' Pv.FnAt.intro ?a ?l ?c ?k; (case a => k_is); (case l => k_is); (case c => k_is); (case k => k_is)
    case f_outcome_of => refine' Pv.FnAt.intro ?a ?l ?c ?k; (case a => k_is); (case l => k_is); (case c => k_is); (case k => k_is)
    case f_in_order => refine' Pv.FnAt.intro ?a ?l ?c ?k; (case a => k_is); (case l => k_is); (case c => k_is); (case k => k_is)
    case f_result_of => refine' Pv.FnAt.intro ?a ?l ?c ?k; (case a => k_is); (case l => k_is); (case c => k_is); (case k => k_is)
    case f_tree_of => refine' Pv.FnAt.intro ?a ?l ?c ?k; (case a => k_is); (case l => k_is); (case c => k_is); (case k => k_is)
    case f_done_of => refine' Pv.FnAt.intro ?a ?l ?c ?k; (case a => k_is); (case l => k_is); (case c => k_is); (case k => k_is)
    case f_children_of => refine' Pv.FnAt.intro ?a ?l ?c ?k; (case a => k_is); (case l => k_is); (case c => k_is); (case k => k_is)
    case f_below_root => refine' Pv.FnAt.intro ?a ?l ?c ?k; (case a => k_is); (case l => k_is); (case c => k_is); (case k => k_is)
    case f_unlike => refine' Pv.FnAt.intro ?a ?l ?c ?k; (case a => k_is); (case l => k_is); (case c => k_is); (case k => k_is)
    case f_knows => refine' Pv.FnAt.intro ?a ?l ?c ?k; (case a => k_is); (case l => k_is); (case c => k_is); (case k => k_is)
    case f_next_counter => refine' Pv.FnAt.intro ?a ?l ?c ?k; (case a => k_is); (case l => k_is); (case c => k_is); (case k => k_is)
    case f_not_known => refine' Pv.FnAt.intro ?a ?l ?c ?k; (case a => k_is); (case l => k_is); (case c => k_is); (case k => k_is)
    case f_view_moves => refine' Pv.FnAt.intro ?a ?l ?c ?k; (case a => k_is); (case l => k_is); (case c => k_is); (case k => k_is)
    case f_seen => refine' Pv.FnAt.intro ?a ?l ?c ?k; (case a => k_is); (case l => k_is); (case c => k_is); (case k => k_is)
    case f_since_when => refine' Pv.FnAt.intro ?a ?l ?c ?k; (case a => k_is); (case l => k_is); (case c => k_is); (case k => k_is)
    case f_has_surprised => refine' Pv.FnAt.intro ?a ?l ?c ?k; (case a => k_is); (case l => k_is); (case c => k_is); (case k => k_is)
    case f_ask => refine' Pv.FnAt.intro ?a ?l ?c ?k; (case a => k_is); (case l => k_is); (case c => k_is); (case k => k_is)
    case f_ask_replica => refine' Pv.FnAt.intro ?a ?l ?c ?k; (case a => k_is); (case l => k_is); (case c => k_is); (case k => k_is)
    case f_ask_known => refine' Pv.FnAt.intro ?a ?l ?c ?k; (case a => k_is); (case l => k_is); (case c => k_is); (case k => k_is)
    case f_ask_place => refine' Pv.FnAt.intro ?a ?l ?c ?k; (case a => k_is); (case l => k_is); (case c => k_is); (case k => k_is)
    case f_asked_view => refine' Pv.FnAt.intro ?a ?l ?c ?k; (case a => k_is); (case l => k_is); (case c => k_is); (case k => k_is)
    case f_asked_tree => refine' Pv.FnAt.intro ?a ?l ?c ?k; (case a => k_is); (case l => k_is); (case c => k_is); (case k => k_is)
    case f_ask_there => refine' Pv.FnAt.intro ?a ?l ?c ?k; (case a => k_is); (case l => k_is); (case c => k_is); (case k => k_is)
    case f_counted => refine' Pv.FnAt.intro ?a ?l ?c ?k; (case a => k_is); (case l => k_is); (case c => k_is); (case k => k_is)
    case f_begin => refine' Pv.FnAt.intro ?a ?l ?c ?k; (case a => k_is); (case l => k_is); (case c => k_is); (case k => k_is)
    case f_move_made => refine' Pv.FnAt.intro ?a ?l ?c ?k; (case a => k_is); (case l => k_is); (case c => k_is); (case k => k_is)
    case f_deliver => refine' Pv.FnAt.intro ?a ?l ?c ?k; (case a => k_is); (case l => k_is); (case c => k_is); (case k => k_is)
    case f_sync => refine' Pv.FnAt.intro ?a ?l ?c ?k; (case a => k_is); (case l => k_is); (case c => k_is); (case k => k_is)
    case f_tree_at => refine' Pv.FnAt.intro ?a ?l ?c ?k; (case a => k_is); (case l => k_is); (case c => k_is); (case k => k_is)
    case f_ancestors => refine' Pv.FnAt.intro ?a ?l ?c ?k; (case a => k_is); (case l => k_is); (case c => k_is); (case k => k_is)
    case f_moved_by => refine' Pv.FnAt.intro ?a ?l ?c ?k; (case a => k_is); (case l => k_is); (case c => k_is); (case k => k_is)
    case f_differences => refine' Pv.FnAt.intro ?a ?l ?c ?k; (case a => k_is); (case l => k_is); (case c => k_is); (case k => k_is)
    case f_history => refine' Pv.FnAt.intro ?a ?l ?c ?k; (case a => k_is); (case l => k_is); (case c => k_is); (case k => k_is)
    case f_since => refine' Pv.FnAt.intro ?a ?l ?c ?k; (case a => k_is); (case l => k_is); (case c => k_is); (case k => k_is)
    case f_surprises => refine' Pv.FnAt.intro ?a ?l ?c ?k; (case a => k_is); (case l => k_is); (case c => k_is); (case k => k_is)
    case f_known => refine' Pv.FnAt.intro ?a ?l ?c ?k; (case a => k_is); (case l => k_is); (case c => k_is); (case k => k_is)
    case f_answer => refine' Pv.FnAt.intro ?a ?l ?c ?k; (case a => k_is); (case l => k_is); (case c => k_is); (case k => k_is)
    case f_answers => refine' Pv.FnAt.intro ?a ?l ?c ?k; (case a => k_is); (case l => k_is); (case c => k_is); (case k => k_is)
    case n_ROOT => refine' Pv.NumAt.intro ?a; (case a => k_is)
    case n_FIRST_MOVABLE => refine' Pv.NumAt.intro ?a; (case a => k_is)
    case n_NODES => refine' Pv.NumAt.intro ?a; (case a => k_is)
    case n_DONE => refine' Pv.NumAt.intro ?a; (case a => k_is)
    case n_NO_PARENT => refine' Pv.NumAt.intro ?a; (case a => k_is)
    case n_CIRCLE => refine' Pv.NumAt.intro ?a; (case a => k_is)
    case n_MOST_REPLICAS => refine' Pv.NumAt.intro ?a; (case a => k_is)
    case n_MOST_LABEL => refine' Pv.NumAt.intro ?a; (case a => k_is)
    case n_OUT_OF_RANGE => refine' Pv.NumAt.intro ?a; (case a => k_is)
    case n_NO_SUCH => refine' Pv.NumAt.intro ?a; (case a => k_is)
    case n_NOT_THERE => refine' Pv.NumAt.intro ?a; (case a => k_is)
    case n_MOST_MOVES => refine' Pv.NumAt.intro ?a; (case a => k_is)
    case n_FULL => refine' Pv.NumAt.intro ?a; (case a => k_is)
    case z_len => show PySem.W.nsIn _ mainGlobals _ = some none; k_is
    case z_range => show PySem.W.nsIn _ mainGlobals _ = some none; k_is
    case z_zip => show PySem.W.nsIn _ mainGlobals _ = some none; k_is
    case z_enumerate => show PySem.W.nsIn _ mainGlobals _ = some none; k_is
    case z_max => show PySem.W.nsIn _ mainGlobals _ = some none; k_is
    case z_sorted => show PySem.W.nsIn _ mainGlobals _ = some none; k_is
    case move => refine' Pv.move_intro (Pv.ClsAt.intro ?a ?pg ?hd ?po ?sa ?mk ?kc ?i ?fn ?l ?c ?k) ?x0 ?x1 ?x2 ?x3 ?x4 ?x5; (case a => k_is); (case pg => k_is); (case hd => k_is); (case po => k_is); (case sa => k_is); (case mk => k_is); (case kc => k_is); (case i => k_is); (case fn => k_is); (case l => k_is); (case c => k_is); (case k => k_is); (case x0 => k_is); (case x1 => k_is); (case x2 => k_is); (case x3 => k_is); (case x4 => k_is); (case x5 => k_is)
    case world => refine' Pv.world_intro (Pv.ClsAt.intro ?a ?pg ?hd ?po ?sa ?mk ?kc ?i ?fn ?l ?c ?k) ?x0 ?x1; (case a => k_is); (case pg => k_is); (case hd => k_is); (case po => k_is); (case sa => k_is); (case mk => k_is); (case kc => k_is); (case i => k_is); (case fn => k_is); (case l => k_is); (case c => k_is); (case k => k_is); (case x0 => k_is); (case x1 => k_is)
    case desk => refine' Pv.desk_intro (Pv.ClsAt.intro ?a ?pg ?hd ?po ?sa ?mk ?kc ?i ?fn ?l ?c ?k) ?x0; (case a => k_is); (case pg => k_is); (case hd => k_is); (case po => k_is); (case sa => k_is); (case mk => k_is); (case kc => k_is); (case i => k_is); (case fn => k_is); (case l => k_is); (case c => k_is); (case k => k_is); (case x0 => k_is)
    case refusal => refine' Pv.RefAt.intro ?aC ?xL ?sa ?ga ?gg ?nb ?a1 ?t1 ?l1 ?c1 ?kC ?eC ?tC ?hC ?iC ?sC; (case aC => k_is); (case xL => k_is); (case sa => k_is); (case ga => k_is); (case gg => k_is); (case nb => k_is); (case a1 => k_is); (case t1 => k_is); (case l1 => k_is); (case c1 => k_is); (case kC => k_is); (case eC => k_is); (case tC => k_is); (case hC => k_is); (case iC => k_is); (case sC => k_is)
    case deeds => refine' Pv.DeedsAt.intro ?aD ?lD ?w1 ?w2 ?w3 ?w4 ?w5 ?w6 ?w7 ?w8 ?w9 ?w10 ?w11 ?w12; (case aD => k_is); (case lD => k_is); (case w1 => k_is); (case w2 => k_is); (case w3 => k_is); (case w4 => k_is); (case w5 => k_is); (case w6 => k_is); (case w7 => k_is); (case w8 => k_is); (case w9 => k_is); (case w10 => k_is); (case w11 => k_is); (case w12 => k_is)
    case numbers => refine' Pv.NumbersAt.intro ?aN ?lN; (case aN => k_is); (case lN => k_is)
  case S =>
    intro K H xs a hO hwi hask hx
    cases hx with
    | cons h1 h2 =>
      cases h2
      cases h1 with
      | lst hs ha =>
        have e := L2.ints_dw a.1 _ ha
        subst e
        have q : ((Codec.inLen 0 1600 a.1 && a.1.all (Codec.inInt 0 18446744073709551615)) && true) = true := hwi
        rw [Bool.and_eq_true, Bool.and_eq_true] at q
        have hall : ∀ x ∈ a.1, (0 : Int) ≤ x := fun x hx => (Codec.inInt_iff.mp (List.all_eq_true.mp q.1.2 x hx)).1
        have ez := Pv.iz_toNat hall
        have hask' : PySq34.answers_asked a.1 = true := hask
        refine ⟨_, a.1.map Int.toNat, rfl, ?_, ?_, fun H' p hp => ?_⟩
        · rw [Pv.nl_iz, ez]
          exact hs
        · rw [ez]
          exact hask'
        · rw [ez] at hp
          exact .lst (L2.SqL.of hp) (L2.dw_ints _)
end
