import PyProof.Rows.All
import Wide.All
import OpenK.AllK
import Wide.FinOn
import Open.SpecLaws
import KE.OsHead
import KE.OsGo
import HandS.ForSpec
import HandS.Comp
import HandS.Iter
import HandS.Zip
import HandS.Style
import HandS.NoneIn
import KE.SortData
import PySem.Challenge.RW_binnedtrees_s01_answers
set_option Elab.async false
set_option linter.all false
set_option maxRecDepth 100000
set_option maxHeartbeats 2000000
namespace Bt
open Sq28 (Place Tree)

/-! ## lists -/
theorem nodup_len {l m : List Nat} (hn : l.Nodup) (hs : ∀ x ∈ l, x ∈ m) : l.length ≤ m.length := by
  induction l generalizing m with
  | nil => exact Nat.zero_le _
  | cons a l ih =>
    have ha : a ∈ m := hs a List.mem_cons_self
    have h1 := List.nodup_cons.mp hn
    have h2 : l.length ≤ (m.erase a).length := ih h1.2 fun x hx => by
      have hxa : x ≠ a := fun e => h1.1 (e ▸ hx)
      exact (List.mem_erase_of_ne hxa).mpr (hs x (List.mem_cons_of_mem _ hx))
    rw [List.length_erase_of_mem ha] at h2
    have h3 : 0 < m.length := List.length_pos_of_mem ha
    rw [List.length_cons]
    omega
theorem nodup_lenG {α : Type} [DecidableEq α] {l m : List α} (hn : l.Nodup) (hs : ∀ x ∈ l, x ∈ m) : l.length ≤ m.length := by
  induction l generalizing m with
  | nil => exact Nat.zero_le _
  | cons a l ih =>
    have ha : a ∈ m := hs a List.mem_cons_self
    have h1 := List.nodup_cons.mp hn
    have h2 : l.length ≤ (m.erase a).length := ih h1.2 fun x hx => by
      have hxa : x ≠ a := fun e => h1.1 (e ▸ hx)
      exact (List.mem_erase_of_ne hxa).mpr (hs x (List.mem_cons_of_mem _ hx))
    rw [List.length_erase_of_mem ha] at h2
    have h3 : 0 < m.length := List.length_pos_of_mem ha
    rw [List.length_cons]
    omega
/-- two strictly rising lists with the same members are one -/
theorem rising_eq {l m : List Nat} (hl : l.Pairwise (· < ·)) (hm : m.Pairwise (· < ·)) (h : ∀ x, x ∈ l ↔ x ∈ m) : l = m := by
  induction l generalizing m with
  | nil =>
    cases m with
    | nil => rfl
    | cons b m => exact absurd ((h b).mpr List.mem_cons_self) (by simp)
  | cons a l ih =>
    cases m with
    | nil => exact absurd ((h a).mp List.mem_cons_self) (by simp)
    | cons b m =>
      have hl' := List.pairwise_cons.mp hl
      have hm' := List.pairwise_cons.mp hm
      have hab : a = b := by
        have h1 : a ∈ b :: m := (h a).mp List.mem_cons_self
        have h2 : b ∈ a :: l := (h b).mpr List.mem_cons_self
        rcases List.mem_cons.mp h1 with e | e
        · exact e
        · rcases List.mem_cons.mp h2 with e2 | e2
          · exact e2.symm
          · have := hm'.1 a e
            have := hl'.1 b e2
            omega
      subst hab
      rw [ih hl'.2 hm'.2 fun x => ?_]
      constructor
      · intro hx
        rcases List.mem_cons.mp ((h x).mp (List.mem_cons_of_mem _ hx)) with e | e
        · have := hl'.1 x hx
          omega
        · exact e
      · intro hx
        rcases List.mem_cons.mp ((h x).mpr (List.mem_cons_of_mem _ hx)) with e | e
        · have := hm'.1 x hx
          omega
        · exact e

/-! ## trees that come of moves -/
structure WF (t : Tree) : Prop where
  sorted : t.Pairwise (fun p q => p.thing < q.thing)
  lo : ∀ p ∈ t, 2 ≤ p.thing
  hi : ∀ p ∈ t, p.thing < 64
  up : ∀ p ∈ t, Sq28.there t p.under = true
  rk : ∃ r : Nat → Nat, ∀ p ∈ t, r p.under < r p.thing

theorem WF.nil : WF [] := ⟨List.Pairwise.nil, by simp, by simp, by simp, ⟨fun _ => 0, by simp⟩⟩

theorem get_some {t : Tree} {x : Nat} {p : Place} (h : Sq28.get t x = some p) : p ∈ t ∧ p.thing = x := by
  unfold Sq28.get at h
  exact ⟨List.mem_of_find?_eq_some h, by simpa using List.find?_some h⟩
theorem get_none {t : Tree} {x : Nat} (h : Sq28.get t x = none) : ∀ p ∈ t, p.thing ≠ x := by
  unfold Sq28.get at h
  intro p hp e
  have := List.find?_eq_none.mp h p hp
  simp [e] at this
theorem get_none_of {t : Tree} {x : Nat} (h : ∀ p ∈ t, p.thing ≠ x) : Sq28.get t x = none := by
  unfold Sq28.get
  exact List.find?_eq_none.mpr fun p hp => by simpa using h p hp
theorem thing_inj {t : Tree} (hs : t.Pairwise (fun p q => p.thing < q.thing)) {p q : Place} (hp : p ∈ t) (hq : q ∈ t) (e : p.thing = q.thing) : p = q := by
  induction t with
  | nil => cases hp
  | cons a t ih =>
    have h := List.pairwise_cons.mp hs
    rcases List.mem_cons.mp hp with e1 | h1
    · rcases List.mem_cons.mp hq with e2 | h2
      · rw [e1, e2]
      · have := h.1 q h2
        rw [e1] at e
        omega
    · rcases List.mem_cons.mp hq with e2 | h2
      · have := h.1 p h1
        rw [e2] at e
        omega
      · exact ih h.2 h1 h2
theorem get_mem {t : Tree} (hs : t.Pairwise (fun p q => p.thing < q.thing)) {p : Place} (hp : p ∈ t) : Sq28.get t p.thing = some p := by
  cases e : Sq28.get t p.thing with
  | none => exact absurd rfl (get_none e p hp)
  | some q =>
    have h := get_some e
    rw [thing_inj hs h.1 hp h.2]
theorem there_iff {t : Tree} {x : Nat} : Sq28.there t x = true ↔ x < 2 ∨ ∃ p, Sq28.get t x = some p := by
  unfold Sq28.there Sq28.ROOT Sq28.BIN
  rw [Bool.or_eq_true, Bool.or_eq_true, beq_iff_eq, beq_iff_eq, Option.isSome_iff_exists]
  constructor
  · rintro (h | h | h)
    · exact .inl (by omega)
    · exact .inl (by omega)
    · exact .inr h
  · rintro (h | h)
    · have : x = 0 ∨ x = 1 := by omega
      rcases this with h | h
      · exact .inl h
      · exact .inr (.inl h)
    · exact .inr (.inr h)
theorem WF.lt64 {t : Tree} (w : WF t) {x : Nat} (h : Sq28.there t x = true) : x < 64 := by
  rcases there_iff.mp h with h | ⟨p, h⟩
  · omega
  · have h := get_some h
    rw [← h.2]
    exact w.hi p h.1
theorem WF.get_lo {t : Tree} (w : WF t) {x : Nat} (h : x < 2) : Sq28.get t x = none := get_none_of fun p hp e => by
  have := w.lo p hp
  omega
theorem WF.things_nodup {t : Tree} (w : WF t) : (t.map (·.thing)).Nodup := by
  rw [List.nodup_iff_pairwise_ne, List.pairwise_map]
  exact w.sorted.imp fun h e => by omega
theorem WF.len {t : Tree} (w : WF t) : t.length ≤ 62 := by
  have h := nodup_len (m := (List.range 62).map (· + 2)) w.things_nodup fun x hx => by
    obtain ⟨p, hp, rfl⟩ := List.mem_map.mp hx
    have h1 := w.lo p hp
    have h2 := w.hi p hp
    exact List.mem_map.mpr ⟨p.thing - 2, List.mem_range.mpr (by omega), by omega⟩
  simpa using h

/-! ## the way up -/
inductive Chain (t : Tree) : Nat → List Nat → Prop
  | top {x : Nat} : Sq28.get t x = none → Chain t x [x]
  | up {x : Nat} {p : Place} {l : List Nat} : Sq28.get t x = some p → Chain t p.under l → Chain t x (x :: l)

theorem WF.chain {t : Tree} (w : WF t) (x : Nat) : ∃ l, Chain t x l := by
  obtain ⟨r, hr⟩ := w.rk
  have : ∀ n x, r x < n → ∃ l, Chain t x l := by
    intro n
    induction n with
    | zero => intro x h; omega
    | succ n ih =>
      intro x h
      cases e : Sq28.get t x with
      | none => exact ⟨_, .top e⟩
      | some p =>
        have hp := get_some e
        have h1 := hr p hp.1
        rw [hp.2] at h1
        obtain ⟨l, hl⟩ := ih p.under (by omega)
        exact ⟨_, .up e hl⟩
  exact this (r x + 1) x (by omega)
theorem Chain.rank {t : Tree} {r : Nat → Nat} (hr : ∀ p ∈ t, r p.under < r p.thing) {x : Nat} {l : List Nat} (h : Chain t x l) : ∀ y ∈ l, r y ≤ r x := by
  induction h with
  | top _ => intro y hy; simp at hy; subst hy; exact Nat.le_refl _
  | up e _ ih =>
    intro y hy
    have hp := get_some e
    have h1 := hr _ hp.1
    rw [hp.2] at h1
    rcases List.mem_cons.mp hy with rfl | hy
    · exact Nat.le_refl _
    · have := ih y hy
      omega
theorem Chain.parts {t : Tree} {r : Nat → Nat} (hr : ∀ p ∈ t, r p.under < r p.thing) {x : Nat} {l : List Nat} (h : Chain t x l) : ∃ i z, l = i ++ [z] ∧ i.Nodup ∧ (∀ y ∈ i, y ∈ t.map (·.thing)) := by
  induction h with
  | top _ => exact ⟨[], _, rfl, List.nodup_nil, by simp⟩
  | @up x p l e c ih =>
    obtain ⟨i, z, rfl, h1, h2⟩ := ih
    have hp := get_some e
    have h3 := hr _ hp.1
    rw [hp.2] at h3
    refine ⟨x :: i, z, rfl, List.nodup_cons.mpr ⟨fun hx => ?_, h1⟩, fun y hy => ?_⟩
    · have := c.rank hr x (List.mem_append_left _ hx)
      omega
    · rcases List.mem_cons.mp hy with rfl | hy
      · exact List.mem_map.mpr ⟨p, hp.1, hp.2⟩
      · exact h2 y hy
theorem WF.chain_len {t : Tree} (w : WF t) {x : Nat} {l : List Nat} (h : Chain t x l) : l.length ≤ t.length + 1 := by
  obtain ⟨r, hr⟩ := w.rk
  obtain ⟨i, z, rfl, h1, h2⟩ := h.parts hr
  have := nodup_len h1 h2
  simp at this ⊢
  omega
theorem Chain.line {t : Tree} {x : Nat} {l : List Nat} (h : Chain t x l) : ∀ f, l.length ≤ f → Sq28.line t f x = l := by
  induction h with
  | top e =>
    intro f hf
    cases f with
    | zero => simp at hf
    | succ f => simp [Sq28.line, e]
  | up e _ ih =>
    intro f hf
    cases f with
    | zero => simp at hf
    | succ f =>
      simp at hf
      simp [Sq28.line, e, ih f hf]
theorem WF.above_chain {t : Tree} (w : WF t) (x : Nat) : Chain t x (Sq28.above t x) := by
  obtain ⟨l, hl⟩ := w.chain x
  unfold Sq28.above
  rw [hl.line _ (w.chain_len hl)]
  exact hl
theorem Chain.uniq {t : Tree} {x : Nat} {l m : List Nat} (h : Chain t x l) (h' : Chain t x m) : l = m := by
  induction h generalizing m with
  | top e =>
    cases h' with
    | top _ => rfl
    | up e2 _ => rw [e] at e2; cases e2
  | up e _ ih =>
    cases h' with
    | top e2 => rw [e] at e2; cases e2
    | up e2 c2 =>
      rw [e] at e2
      cases e2
      rw [ih c2]
theorem WF.above_none {t : Tree} (w : WF t) {x : Nat} (h : Sq28.get t x = none) : Sq28.above t x = [x] := (w.above_chain x).uniq (.top h)
theorem WF.above_some {t : Tree} (w : WF t) {x : Nat} {p : Place} (h : Sq28.get t x = some p) : Sq28.above t x = x :: Sq28.above t p.under := (w.above_chain x).uniq (.up h (w.above_chain _))
theorem WF.above_len {t : Tree} (w : WF t) (x : Nat) : (Sq28.above t x).length ≤ t.length + 1 := w.chain_len (w.above_chain x)
theorem WF.above_pos {t : Tree} (w : WF t) (x : Nat) : 1 ≤ (Sq28.above t x).length := by
  have h := w.above_chain x
  generalize Sq28.above t x = l at h ⊢
  cases h <;> simp

/-! ## the program's two lists -/
def parAt (t : Tree) (i : Nat) : Int := if i < 2 then -1 else match Sq28.get t i with
  | none => -2
  | some p => (p.under : Int)
def labAt (t : Tree) (i : Nat) : Int := match Sq28.get t i with
  | none => 0
  | some p => (p.label : Int)
def pars (t : Tree) : List Int := (List.range 64).map (parAt t)
def labs (t : Tree) : List Int := (List.range 64).map (labAt t)
theorem pars_len (t : Tree) : (pars t).length = 64 := by simp [pars]
theorem labs_len (t : Tree) : (labs t).length = 64 := by simp [labs]
theorem pars_at (t : Tree) {i : Nat} (h : i < 64) : (pars t)[i]? = some (parAt t i) := by simp [pars, h]
theorem labs_at (t : Tree) {i : Nat} (h : i < 64) : (labs t)[i]? = some (labAt t i) := by simp [labs, h]
theorem parAt_there {t : Tree} {x : Nat} : parAt t x ≠ -2 ↔ Sq28.there t x = true := by
  rw [there_iff]
  unfold parAt
  by_cases h : x < 2
  · simp [h]
  · rw [if_neg h]
    cases e : Sq28.get t x with
    | none => simp [h]
    | some p =>
      simp
theorem parAt_some {t : Tree} {x : Nat} {p : Place} (h2 : 2 ≤ x) (h : Sq28.get t x = some p) : parAt t x = (p.under : Int) := by
  unfold parAt
  rw [if_neg (by omega), h]
theorem parAt_top {t : Tree} {x : Nat} (h : x < 2) : parAt t x = -1 := by
  unfold parAt
  rw [if_pos h]

/-- the loop of is_within: so many turns are left -/
def climb (t : Tree) (other : Int) : Nat → Int → Bool
  | 0, _ => false
  | n + 1, h => if h = other then true else if h = -1 then false else climb t other n (parAt t h.toNat)
theorem WF.climb_eq {t : Tree} (w : WF t) {x : Nat} {l : List Nat} (c : Chain t x l) : Sq28.there t x = true → ∀ (n : Nat) (other : Nat), 2 ≤ other → l.length < n → climb t (other : Int) n (x : Int) = l.contains other := by
  induction c with
  | @top x e =>
    intro ht n other ho hn
    have hx : x < 2 := by
      rcases there_iff.mp ht with h | ⟨p, h⟩
      · exact h
      · rw [e] at h; cases h
    match n, hn with
    | n + 2, _ =>
      unfold climb
      rw [if_neg (by omega), if_neg (by omega), Int.toNat_natCast, parAt_top hx]
      unfold climb
      rw [if_neg (by omega), if_pos rfl]
      have : other ≠ x := by omega
      simp [this]
  | @up x p l e _ ih =>
    intro ht n other ho hn
    have hp := get_some e
    match n, hn with
    | n + 1, hn =>
      unfold climb
      by_cases h : other = x
      · subst h
        simp
      · rw [if_neg (by omega), if_neg (by omega), Int.toNat_natCast, parAt_some (by have := w.lo p hp.1; omega) e, ih (w.up p hp.1) n other ho (by simp at hn; exact hn)]
        simp [h]
theorem WF.climb_above {t : Tree} (w : WF t) {x other : Nat} (ht : Sq28.there t x = true) (ho : 2 ≤ other) : climb t (other : Int) 64 (x : Int) = (Sq28.above t x).contains other :=
  w.climb_eq (w.above_chain x) ht 64 other ho (by have := w.above_len x; have := w.len; omega)

/-! ## put -/
theorem mem_put {p q : Place} {t : Tree} : q ∈ Sq28.put p t ↔ q = p ∨ (q ∈ t ∧ q.thing ≠ p.thing) := by
  unfold Sq28.put
  simp only [List.mem_append, List.mem_filter, List.mem_cons, decide_eq_true_eq]
  constructor
  · rintro (⟨h, h2⟩ | h | ⟨h, h2⟩)
    · exact .inr ⟨h, by omega⟩
    · exact .inl h
    · exact .inr ⟨h, by omega⟩
  · rintro (h | ⟨h, h2⟩)
    · exact .inr (.inl h)
    · have : q.thing < p.thing ∨ p.thing < q.thing := by omega
      rcases this with h3 | h3
      · exact .inl ⟨h, h3⟩
      · exact .inr (.inr ⟨h, h3⟩)
theorem put_sorted {p : Place} {t : Tree} (h : t.Pairwise (fun p q => p.thing < q.thing)) : (Sq28.put p t).Pairwise (fun p q => p.thing < q.thing) := by
  unfold Sq28.put
  rw [List.pairwise_append]
  refine ⟨h.filter _, List.pairwise_cons.mpr ⟨fun q hq => ?_, h.filter _⟩, fun a ha b hb => ?_⟩
  · simpa using (List.mem_filter.mp hq).2
  · have h1 : a.thing < p.thing := by simpa using (List.mem_filter.mp ha).2
    rcases List.mem_cons.mp hb with rfl | hb
    · exact h1
    · have : p.thing < b.thing := by simpa using (List.mem_filter.mp hb).2
      omega
theorem get_put {p : Place} {t : Tree} (h : t.Pairwise (fun p q => p.thing < q.thing)) (x : Nat) : Sq28.get (Sq28.put p t) x = if x = p.thing then some p else Sq28.get t x := by
  by_cases e : x = p.thing
  · subst e
    rw [if_pos rfl]
    exact get_mem (put_sorted h) (mem_put.mpr (.inl rfl))
  · rw [if_neg e]
    cases e2 : Sq28.get t x with
    | none =>
      refine get_none_of fun q hq e3 => ?_
      rcases mem_put.mp hq with h1 | ⟨h1, _⟩
      · exact e (by rw [← e3, h1])
      · exact get_none e2 q h1 e3
    | some q =>
      have hq := get_some e2
      rw [← hq.2]
      exact get_mem (put_sorted h) (mem_put.mpr (.inr ⟨hq.1, by rw [hq.2]; exact e⟩))
theorem WF.put {t : Tree} (w : WF t) {p : Place} (h2 : 2 ≤ p.thing) (h64 : p.thing < 64) (hu : Sq28.there t p.under = true) (ha : (Sq28.above t p.under).contains p.thing = false) : WF (Sq28.put p t) := by
  have thr : ∀ x, Sq28.there t x = true → Sq28.there (Sq28.put p t) x = true := fun x hx => by
    rcases there_iff.mp hx with h | ⟨q, h⟩
    · exact there_iff.mpr (.inl h)
    · refine there_iff.mpr (.inr ?_)
      rw [get_put w.sorted]
      by_cases e : x = p.thing
      · rw [if_pos e]
        exact ⟨p, rfl⟩
      · rw [if_neg e]
        exact ⟨q, h⟩
  refine ⟨put_sorted w.sorted, fun q hq => ?_, fun q hq => ?_, fun q hq => ?_, ?_⟩
  · rcases mem_put.mp hq with rfl | ⟨hq, _⟩
    · exact h2
    · exact w.lo q hq
  · rcases mem_put.mp hq with rfl | ⟨hq, _⟩
    · exact h64
    · exact w.hi q hq
  · rcases mem_put.mp hq with rfl | ⟨hq, _⟩
    · exact thr _ hu
    · exact thr _ (w.up q hq)
  · obtain ⟨r, hr⟩ := w.rk
    refine ⟨fun y => if (Sq28.above t y).contains p.thing = true then r y + r p.under + 1 else r y, fun q hq => ?_⟩
    rcases mem_put.mp hq with rfl | ⟨hq, hne⟩
    · have e : (Sq28.above t q.thing).contains q.thing = true := by
        have h := w.above_chain q.thing
        generalize Sq28.above t q.thing = l at h ⊢
        cases h <;> simp
      show (if (Sq28.above t q.under).contains q.thing = true then _ else _) < (if (Sq28.above t q.thing).contains q.thing = true then _ else _)
      rw [if_neg (by rw [ha]; exact Bool.false_ne_true), if_pos e]
      omega
    · have e := w.above_some (get_mem w.sorted hq)
      have h1 := hr q hq
      have e2 : (Sq28.above t q.thing).contains p.thing = (Sq28.above t q.under).contains p.thing := by
        rw [e]
        simp [Ne.symm hne]
      show (if (Sq28.above t q.under).contains p.thing = true then _ else _) < (if (Sq28.above t q.thing).contains p.thing = true then _ else _)
      rw [e2]
      split <;> omega
theorem outcome_one {t : Tree} {d : Sq28.Deed} (h : Sq28.outcome t d = 1) : Sq28.there t d.under = true ∧ (Sq28.above t d.under).contains d.thing = false := by
  unfold Sq28.outcome at h
  split at h
  · cases h
  · split at h
    · cases h
    · rename_i h1 h2
      exact ⟨by simpa using h1, by simpa using h2⟩
theorem WF.done {t : Tree} (w : WF t) {d : Sq28.Deed} (h2 : 2 ≤ d.thing) (h64 : d.thing < 64) : WF (Sq28.done t d) := by
  unfold Sq28.done
  split
  · rename_i h
    have := outcome_one h
    exact w.put h2 h64 this.1 this.2
  · exact w
theorem WF.dones {l : List Sq28.Deed} (h : ∀ d ∈ l, 2 ≤ d.thing ∧ d.thing < 64) : ∀ {t : Tree}, WF t → WF (l.foldl Sq28.done t) := by
  induction l with
  | nil => exact fun w => w
  | cons d l ih =>
    intro t w
    have hd := h d List.mem_cons_self
    exact ih (fun e he => h e (List.mem_cons_of_mem _ he)) (w.done hd.1 hd.2)

/-! ## put on the two lists -/
theorem set_split {α : Type} : ∀ (l : List α) (i : Nat) (x : α), i < l.length → l.take i ++ [x] ++ l.drop (i + 1) = l.set i x
  | [], i, x, h => by simp at h
  | a :: l, 0, x, _ => rfl
  | a :: l, i + 1, x, h => by
    have := set_split l i x (by simpa using h)
    show a :: (l.take i ++ [x] ++ l.drop (i + 1)) = a :: l.set i x
    rw [this]
theorem pars_put {t : Tree} (w : WF t) {p : Place} (h2 : 2 ≤ p.thing) (h64 : p.thing < 64) : pars (Sq28.put p t) = (pars t).set p.thing (p.under : Int) := by
  refine List.ext_getElem? fun i => ?_
  by_cases hi : i < 64
  · rw [pars_at _ hi, List.getElem?_set, pars_len, pars_at _ hi]
    unfold parAt
    rw [get_put w.sorted]
    by_cases e : p.thing = i
    · subst e
      rw [if_neg (by omega), if_pos rfl, if_pos rfl, if_pos h64]
    · rw [if_neg (show ¬ i = p.thing from fun q => e q.symm), if_neg e]
  · rw [List.getElem?_eq_none (by rw [pars_len]; omega), List.getElem?_eq_none (by rw [List.length_set, pars_len]; omega)]
theorem labs_put {t : Tree} (w : WF t) {p : Place} (h64 : p.thing < 64) : labs (Sq28.put p t) = (labs t).set p.thing (p.label : Int) := by
  refine List.ext_getElem? fun i => ?_
  by_cases hi : i < 64
  · rw [labs_at _ hi, List.getElem?_set, labs_len, labs_at _ hi]
    unfold labAt
    rw [get_put w.sorted]
    by_cases e : p.thing = i
    · subst e
      rw [if_pos rfl, if_pos rfl, if_pos h64]
    · rw [if_neg (fun q => e q.symm), if_neg e]
  · rw [List.getElem?_eq_none (by rw [labs_len]; omega), List.getElem?_eq_none (by rw [List.length_set, labs_len]; omega)]

/-! ## equal lists, equal trees -/
theorem tree_eq {t u : Tree} (w : WF t) (v : WF u) (hp : pars t = pars u) (hl : labs t = labs u) : t = u := by
  have hg : ∀ i, Sq28.get t i = Sq28.get u i := fun i => by
    by_cases hi : i < 64
    · by_cases h2 : i < 2
      · rw [w.get_lo h2, v.get_lo h2]
      · have e1 : parAt t i = parAt u i := by
          have := congrArg (·[i]?) hp
          simp only [pars_at _ hi] at this
          exact Option.some.inj this
        have e2 : labAt t i = labAt u i := by
          have := congrArg (·[i]?) hl
          simp only [labs_at _ hi] at this
          exact Option.some.inj this
        unfold parAt at e1
        unfold labAt at e2
        rw [if_neg h2, if_neg h2] at e1
        cases a : Sq28.get t i with
        | none =>
          cases b : Sq28.get u i with
          | none => rfl
          | some q =>
            rw [a, b] at e1
            simp at e1
        | some p =>
          cases b : Sq28.get u i with
          | none =>
            rw [a, b] at e1
            simp at e1
          | some q =>
            rw [a, b] at e1 e2
            have pa := (get_some a).2
            have qb := (get_some b).2
            cases p
            cases q
            simp at e1 e2 pa qb ⊢
            exact ⟨by omega, by omega, by omega⟩
    · rw [get_none_of fun p h e => ?_, get_none_of fun p h e => ?_]
      · have := v.hi p h
        omega
      · have := w.hi p h
        omega
  have key : ∀ (t u : Tree), t.Pairwise (fun p q => p.thing < q.thing) → u.Pairwise (fun p q => p.thing < q.thing) → (∀ p, p ∈ t ↔ p ∈ u) → t = u := by
    intro t
    induction t with
    | nil =>
      intro u _ _ h
      cases u with
      | nil => rfl
      | cons b m => exact absurd ((h b).mpr List.mem_cons_self) (by simp)
    | cons a l ih =>
      intro u hl hm h
      cases u with
      | nil => exact absurd ((h a).mp List.mem_cons_self) (by simp)
      | cons b m =>
        have hl' := List.pairwise_cons.mp hl
        have hm' := List.pairwise_cons.mp hm
        have hab : a = b := by
          rcases List.mem_cons.mp ((h a).mp List.mem_cons_self) with e | e
          · exact e
          · rcases List.mem_cons.mp ((h b).mpr List.mem_cons_self) with e2 | e2
            · exact e2.symm
            · have := hm'.1 a e
              have := hl'.1 b e2
              omega
        subst hab
        rw [ih m hl'.2 hm'.2 fun x => ?_]
        constructor
        · intro hx
          rcases List.mem_cons.mp ((h x).mp (List.mem_cons_of_mem _ hx)) with e | e
          · have := hl'.1 x hx
            rw [e] at this
            omega
          · exact e
        · intro hx
          rcases List.mem_cons.mp ((h x).mpr (List.mem_cons_of_mem _ hx)) with e | e
          · have := hm'.1 x hx
            rw [e] at this
            omega
          · exact e
  refine key t u w.sorted v.sorted fun p => ⟨fun h => ?_, fun h => ?_⟩
  · have := get_mem w.sorted h
    rw [hg] at this
    exact (get_some this).1
  · have := get_mem v.sorted h
    rw [← hg] at this
    exact (get_some this).1

/-! ## the nodes below -/
theorem kids_eq {t : Tree} (w : WF t) (x : Nat) : ((List.range 64).filter fun i => decide (parAt t i = (x : Int))) = (Sq28.under t x).map (·.thing) := by
  refine rising_eq (List.pairwise_lt_range.filter _) ?_ fun i => ?_
  · rw [List.pairwise_map]
    unfold Sq28.under
    exact w.sorted.filter _
  · rw [List.mem_filter, List.mem_range, decide_eq_true_eq, List.mem_map]
    unfold Sq28.under
    constructor
    · rintro ⟨h1, h2⟩
      unfold parAt at h2
      split at h2
      · omega
      · split at h2
        · omega
        · rename_i p e
          have hp := get_some e
          exact ⟨p, List.mem_filter.mpr ⟨hp.1, by simp; omega⟩, hp.2⟩
    · rintro ⟨p, hp, rfl⟩
      have hp := List.mem_filter.mp hp
      have h2 := w.lo p hp.1
      have hu : p.under = x := by simpa using hp.2
      exact ⟨w.hi p hp.1, by rw [parAt_some h2 (get_mem w.sorted hp.1), hu]⟩
theorem flatMap_same {α β : Type} {f g : α → List β} : ∀ {l : List α}, (∀ x ∈ l, f x = g x) → l.flatMap f = l.flatMap g
  | [], _ => rfl
  | a :: l, h => by
    rw [List.flatMap_cons, List.flatMap_cons, h a List.mem_cons_self, flatMap_same fun x hx => h x (List.mem_cons_of_mem _ hx)]
theorem WF.listed_more {t : Tree} (w : WF t) : ∀ (f d x : Nat), t.length + 2 ≤ f + (Sq28.above t x).length → Sq28.listed t f d x = Sq28.listed t (f + 1) d x
  | 0, d, x, h => by
    have := w.above_len x
    omega
  | f + 1, d, x, h => by
    show ((Sq28.under t x).flatMap fun p => (p, d) :: Sq28.listed t f (d + 1) p.thing) = ((Sq28.under t x).flatMap fun p => (p, d) :: Sq28.listed t (f + 1) (d + 1) p.thing)
    refine flatMap_same fun p hp => ?_
    have hp := List.mem_filter.mp hp
    have hu : p.under = x := by simpa using hp.2
    have e := w.above_some (get_mem w.sorted hp.1)
    rw [hu] at e
    rw [w.listed_more f (d + 1) p.thing (by rw [e, List.length_cons]; omega)]
def lst (t : Tree) (d x : Nat) : List (Place × Nat) := Sq28.listed t (t.length + 1) d x
theorem WF.lst_eq {t : Tree} (w : WF t) (d x : Nat) : lst t d x = (Sq28.under t x).flatMap fun p => (p, d) :: lst t (d + 1) p.thing := by
  unfold lst
  rw [w.listed_more _ d x (by have := w.above_pos x; omega)]
  rfl
theorem all_lst (t : Tree) (x : Nat) : Sq28.all t x = lst t 1 x := rfl
/-- what a stack still has to tell -/
def todo (t : Tree) (st : List (Place × Nat)) : List (Place × Nat) := st.flatMap fun e => e :: lst t (e.2 + 1) e.1.thing
def kids (t : Tree) (d x : Nat) : List (Place × Nat) := (Sq28.under t x).map fun p => (p, d)
theorem WF.todo_start {t : Tree} (w : WF t) (d x : Nat) : todo t (kids t d x) = lst t d x := by
  rw [w.lst_eq]
  unfold todo kids
  rw [List.flatMap_map]
theorem WF.todo_step {t : Tree} (w : WF t) (e : Place × Nat) (st : List (Place × Nat)) : todo t (e :: st) = e :: todo t (kids t (e.2 + 1) e.1.thing ++ st) := by
  have h : todo t (kids t (e.2 + 1) e.1.thing ++ st) = todo t (kids t (e.2 + 1) e.1.thing) ++ todo t st := by
    unfold todo
    rw [List.flatMap_append]
  rw [h, w.todo_start]
  unfold todo
  rw [List.flatMap_cons]
  rfl
theorem todo_nil (t : Tree) : todo t [] = [] := rfl
theorem todo_len (t : Tree) (st : List (Place × Nat)) : st.length ≤ (todo t st).length := by
  induction st with
  | nil => exact Nat.zero_le _
  | cons e st ih =>
    have h : todo t (e :: st) = (e :: lst t (e.2 + 1) e.1.thing) ++ todo t st := by
      unfold todo
      rw [List.flatMap_cons]
    rw [h, List.length_append, List.length_cons, List.length_cons]
    omega
theorem kids_mem {t : Tree} {d x : Nat} {e : Place × Nat} (h : e ∈ kids t d x) : e.1 ∈ t := by
  obtain ⟨p, hp, rfl⟩ := List.mem_map.mp h
  exact (List.mem_filter.mp hp).1
end Bt
namespace Bt
open Sq33 (Deed Desk House Letter Counts at_ most enter)

/-! ## timestamps -/
abbrev stp (d : Deed) : Sq28.Stamp := d.move.stamp
def Bef (d e : Deed) : Prop := (stp d).before (stp e) = true
theorem before_iff {a b : Sq28.Stamp} : a.before b = true ↔ a.count < b.count ∨ (a.count = b.count ∧ a.hand < b.hand) := by
  unfold Sq28.Stamp.before
  simp
theorem stamp_ext {a b : Sq28.Stamp} (h1 : a.count = b.count) (h2 : a.hand = b.hand) : a = b := by
  cases a
  cases b
  simp at h1 h2
  rw [h1, h2]
theorem Bef.ne {d e : Deed} (h : Bef d e) : stp d ≠ stp e := fun q => by
  have := before_iff.mp h
  rw [q] at this
  omega
theorem bef_of {d e : Deed} (h : ¬ (stp d).before (stp e) = true) (n : stp d ≠ stp e) : Bef e d := by
  rw [before_iff] at h
  refine before_iff.mpr ?_
  by_cases h1 : (stp d).count = (stp e).count
  · by_cases h2 : (stp d).hand = (stp e).hand
    · exact absurd (stamp_ext h1 h2) n
    · omega
  · omega
theorem Bef.trans {a b c : Deed} (h : Bef a b) (k : Bef b c) : Bef a c := by
  have h := before_iff.mp h
  have k := before_iff.mp k
  refine before_iff.mpr ?_
  omega
theorem enter_mem {d : Deed} : ∀ {l : List Deed} {e : Deed}, e ∈ enter d l → e = d ∨ e ∈ l
  | [], e, h => by simp [enter] at h; exact .inl h
  | a :: l, e, h => by
    unfold enter at h
    split at h
    · rcases List.mem_cons.mp h with h | h
      · exact .inl h
      · exact .inr h
    · split at h
      · exact .inr h
      · rcases List.mem_cons.mp h with h | h
        · exact .inr (h ▸ List.mem_cons_self)
        · rcases enter_mem h with h | h
          · exact .inl h
          · exact .inr (List.mem_cons_of_mem _ h)
theorem enter_perm {d : Deed} : ∀ {l : List Deed}, (∀ e ∈ l, stp d ≠ stp e) → (enter d l).Perm (l ++ [d])
  | [], _ => by simp [enter]
  | a :: l, h => by
    unfold enter
    split
    · exact (List.perm_append_comm (l₁ := [d]) (l₂ := a :: l))
    · rw [if_neg (h a List.mem_cons_self)]
      exact (enter_perm fun e he => h e (List.mem_cons_of_mem _ he)).cons a
theorem enter_sorted {d : Deed} : ∀ {l : List Deed}, (∀ e ∈ l, stp d ≠ stp e) → l.Pairwise Bef → (enter d l).Pairwise Bef
  | [], _, _ => by simp [enter]
  | a :: l, h, hs => by
    have hs' := List.pairwise_cons.mp hs
    unfold enter
    split
    · rename_i hb
      refine List.pairwise_cons.mpr ⟨fun e he => ?_, hs⟩
      rcases List.mem_cons.mp he with rfl | he
      · exact hb
      · exact Bef.trans (b := a) hb (hs'.1 e he)
    · rename_i hb
      rw [if_neg (h a List.mem_cons_self)]
      refine List.pairwise_cons.mpr ⟨fun e he => ?_, enter_sorted (fun e he => h e (List.mem_cons_of_mem _ he)) hs'.2⟩
      rcases enter_mem he with rfl | he
      · exact bef_of hb (h a List.mem_cons_self)
      · exact hs'.1 e he
abbrev enters (l kept : List Deed) : List Deed := l.foldl (fun (s : List Deed) d => enter d s) kept
theorem enters_ok : ∀ {l kept : List Deed}, l.Pairwise (fun d e => stp d ≠ stp e) → (∀ d ∈ l, ∀ e ∈ kept, stp d ≠ stp e) → kept.Pairwise Bef → (enters l kept).Perm (kept ++ l) ∧ (enters l kept).Pairwise Bef
  | [], kept, _, _, hs => by
    refine ⟨?_, hs⟩
    rw [List.append_nil]
    exact List.Perm.refl _
  | d :: l, kept, hl, hd, hs => by
    have hl' := List.pairwise_cons.mp hl
    have h1 := enter_perm (hd d List.mem_cons_self)
    have h2 := enter_sorted (hd d List.mem_cons_self) hs
    have ih := enters_ok (l := l) (kept := enter d kept) hl'.2 (fun e he f hf => by
      rcases enter_mem hf with rfl | hf
      · exact fun q => hl'.1 e he q.symm
      · exact hd e (List.mem_cons_of_mem _ he) f hf) h2
    refine ⟨ih.1.trans ?_, ih.2⟩
    have := h1.append_right l
    rw [List.append_assoc] at this
    exact this

/-! ## counts -/
theorem at_get {c : Counts} {k : Nat} (h : k < c.length) : c[k]? = some (at_ c k) := by
  unfold at_
  rw [List.getElem?_eq_getElem h]
  rfl
theorem most_len (a b : Counts) : (most a b).length = a.length := by simp [most]
theorem most_at {a b : Counts} {i : Nat} (h : i < a.length) : at_ (most a b) i = max (at_ a i) (at_ b i) := by
  have e : (most a b)[i]? = some (max (at_ a i) (at_ b i)) := by
    unfold most
    simp [h]
  show ((most a b)[i]?).getD 0 = _
  rw [e]
  rfl
theorem at_set {c : Counts} {k i v : Nat} (h : k < c.length) : at_ (c.set k v) i = if k = i then v else at_ c i := by
  show ((c.set k v)[i]?).getD 0 = _
  rw [List.getElem?_set]
  by_cases e : k = i
  · subst e
    rw [if_pos rfl, if_pos rfl, if_pos h]
    rfl
  · rw [if_neg e, if_neg e]
    rfl
theorem at_replicate {n i : Nat} : at_ (List.replicate n 0) i = 0 := by
  show ((List.replicate n 0)[i]?).getD 0 = 0
  rw [List.getElem?_replicate]
  split <;> rfl

/-! ## what holds of a house at all times -/
structure DeskOk (n : Nat) (all : List Deed) (k : Nat) (x : Desk) : Prop where
  has : x.has.length = n
  sureL : x.sure.length = n
  sureE : ∀ c ∈ x.sure, c.length = n
  heard : x.heard.length = n
  base : WF x.base
  kept : x.kept.Pairwise Bef
  keptAll : ∀ d ∈ x.kept, d ∈ all
  keptWas : ∀ d ∈ x.kept, d.n ≤ at_ x.has d.desk
  made : ∀ d ∈ all, d.desk = k → (stp d).count ≤ x.clock
structure LetterOk (n : Nat) (all : List Deed) (m : Letter) : Prop where
  frm : m.from_ < n
  to : m.to < n
  has : m.has.length = n
  deeds : m.deeds.Pairwise Bef
  deedsAll : ∀ d ∈ m.deeds, d ∈ all
  deedsHas : ∀ d ∈ m.deeds, d.n ≤ at_ m.has d.desk
structure DeedOk (n : Nat) (d : Deed) : Prop where
  lo : 2 ≤ d.move.thing
  hi : d.move.thing < 64
  under : d.move.under < 64
  desk : d.desk < n
structure HouseOk (h : House) : Prop where
  lo : 1 ≤ h.hands
  hi : h.hands ≤ 6
  desks : h.desks.length = h.hands
  desk : ∀ k x, h.desks[k]? = some x → DeskOk h.hands h.all k x
  letters : ∀ m ∈ h.letters, LetterOk h.hands h.all m
  stamp : ∀ d ∈ h.all, ∀ e ∈ h.all, stp d = stp e → d = e
  deed : ∀ d ∈ h.all, DeedOk h.hands d
  allLen : h.all.length ≤ 80
  letLen : h.letters.length ≤ 200

theorem desk_get {h : House} {k : Nat} (hk : k < h.desks.length) : h.desks[k]? = some (h.desk k) := by
  unfold Sq33.House.desk
  rw [List.getElem?_eq_getElem hk]
  rfl
theorem HouseOk.at {h : House} (w : HouseOk h) {k : Nat} (hk : k < h.hands) : DeskOk h.hands h.all k (h.desk k) :=
  w.desk k _ (desk_get (by rw [w.desks]; exact hk))
theorem bef_nodup {l : List Deed} (h : l.Pairwise Bef) : l.Nodup := by
  rw [List.nodup_iff_pairwise_ne]
  exact h.imp fun b e => b.ne (by rw [e])
theorem HouseOk.short {h : House} (w : HouseOk h) {l : List Deed} (hs : l.Pairwise Bef) (ha : ∀ d ∈ l, d ∈ h.all) : l.length ≤ 80 :=
  Nat.le_trans (nodup_lenG (bef_nodup hs) ha) w.allLen
theorem deskOk_none (n k : Nat) : DeskOk n [] k (Sq33.none_ n) := by
  refine ⟨?_, ?_, ?_, ?_, WF.nil, List.Pairwise.nil, ?_, ?_, ?_⟩ <;> simp [Sq33.none_]
theorem houseOk_new {n : Nat} (h1 : 1 ≤ n) (h6 : n ≤ 6) : HouseOk (Sq33.new n) := by
  refine ⟨h1, h6, by simp [Sq33.new], fun k x hx => ?_, by simp [Sq33.new], by simp [Sq33.new], by simp [Sq33.new], by simp [Sq33.new], by simp [Sq33.new]⟩
  have e : x = Sq33.none_ n := by
    have hx : (List.replicate n (Sq33.none_ n))[k]? = some x := hx
    rw [List.getElem?_replicate] at hx
    split at hx
    · exact (Option.some.inj hx).symm
    · cases hx
  rw [e]
  exact deskOk_none n k
theorem houseOk_fresh : HouseOk Sq33.fresh := houseOk_new (Nat.le_refl 1) (by decide)

/-- one desk is another -/
theorem HouseOk.setDesk {h : House} (w : HouseOk h) {k : Nat} {x : Desk} (hx : DeskOk h.hands h.all k x) : HouseOk (h.set k x) := by
  refine ⟨w.lo, w.hi, by show (h.desks.set k x).length = h.hands; rw [List.length_set]; exact w.desks, fun j y hy => ?_, w.letters, w.stamp, w.deed, w.allLen, w.letLen⟩
  have hy : (h.desks.set k x)[j]? = some y := hy
  rw [List.getElem?_set] at hy
  by_cases e : k = j
  · subst e
    rw [if_pos rfl] at hy
    split at hy
    · cases hy
      exact hx
    · cases hy
  · rw [if_neg e] at hy
    exact w.desk j y hy
/-- the new deed of a move -/
def newDeed (h : House) (k x u v : Nat) : Deed := ⟨at_ (h.desk k).has k + 1, ⟨h.all.length, ⟨(h.desk k).clock + 1, k⟩, x, u, v⟩⟩
theorem newDeed_stamp {h : House} (w : HouseOk h) {k x u v : Nat} (hk : k < h.hands) : ∀ e ∈ h.all, stp (newDeed h k x u v) ≠ stp e := fun e he q => by
  have h1 := (w.at hk).made e he (by show (stp e).hand = k; rw [← q]; rfl)
  rw [← q] at h1
  have : (h.desk k).clock + 1 ≤ (h.desk k).clock := h1
  omega
def movedDesk (q : Desk) (k : Nat) (d : Deed) : Desk := { q with kept := enter d q.kept, has := q.has.set k (at_ q.has k + 1), clock := q.clock + 1 }
theorem HouseOk.moved {h : House} (w : HouseOk h) {k x u v : Nat} (hk : k < h.hands) (hx : 2 ≤ x) (hx2 : x < 64) (hu : u < 64) (hl : h.all.length < 80) :
    HouseOk (Sq33.House.set { h with all := h.all ++ [newDeed h k x u v] } k (movedDesk (h.desk k) k (newDeed h k x u v))) := by
  have D := w.at hk
  have hne := newDeed_stamp w (x := x) (u := u) (v := v) hk
  have w1 : HouseOk { h with all := h.all ++ [newDeed h k x u v], desks := h.desks.set k (movedDesk (h.desk k) k (newDeed h k x u v)) } := by
    refine ⟨w.lo, w.hi, by show (h.desks.set k _).length = h.hands; rw [List.length_set]; exact w.desks, fun j y hy => ?_, fun m hm => ?_, ?_, ?_, ?_, w.letLen⟩
    · have hy : (h.desks.set k (movedDesk (h.desk k) k (newDeed h k x u v)))[j]? = some y := hy
      rw [List.getElem?_set] at hy
      by_cases e : k = j
      · subst e
        rw [if_pos rfl, if_pos (by rw [w.desks]; exact hk)] at hy
        cases hy
        refine ⟨by show ((h.desk k).has.set k _).length = _; rw [List.length_set]; exact D.has, D.sureL, D.sureE, D.heard, D.base, enter_sorted (fun e he => hne e (D.keptAll e he)) D.kept, fun d hd => ?_, fun d hd => ?_, fun d hd hdk => ?_⟩
        · rcases enter_mem hd with rfl | hd
          · exact List.mem_append_right _ List.mem_cons_self
          · exact List.mem_append_left _ (D.keptAll d hd)
        · show d.n ≤ at_ ((h.desk k).has.set k (at_ (h.desk k).has k + 1)) d.desk
          rw [at_set (by rw [D.has]; exact hk)]
          rcases enter_mem hd with rfl | hd
          · rw [if_pos (show k = (newDeed h k x u v).desk from rfl)]
            exact Nat.le_refl _
          · have := D.keptWas d hd
            split
            · rename_i e
              rw [← e] at this
              omega
            · exact this
        · show (stp d).count ≤ (h.desk k).clock + 1
          rcases List.mem_append.mp hd with hd | hd
          · have := D.made d hd hdk
            omega
          · have e : d = newDeed h k x u v := by simpa using hd
            rw [e]
            exact Nat.le_refl _
      · rw [if_neg e] at hy
        have E := w.desk j y hy
        refine ⟨E.has, E.sureL, E.sureE, E.heard, E.base, E.kept, fun d hd => List.mem_append_left _ (E.keptAll d hd), E.keptWas, fun d hd hdj => ?_⟩
        rcases List.mem_append.mp hd with hd | hd
        · exact E.made d hd hdj
        · have e2 : d = newDeed h k x u v := by simpa using hd
          rw [e2] at hdj
          exact absurd hdj e
    · have M := w.letters m hm
      exact ⟨M.frm, M.to, M.has, M.deeds, fun d hd => List.mem_append_left _ (M.deedsAll d hd), M.deedsHas⟩
    · intro d hd e he q
      rcases List.mem_append.mp hd with hd | hd
      · rcases List.mem_append.mp he with he | he
        · exact w.stamp d hd e he q
        · have e2 : e = newDeed h k x u v := by simpa using he
          rw [e2] at q
          exact absurd q.symm (hne d hd)
      · have d2 : d = newDeed h k x u v := by simpa using hd
        rcases List.mem_append.mp he with he | he
        · rw [d2] at q
          exact absurd q (hne e he)
        · have e2 : e = newDeed h k x u v := by simpa using he
          rw [d2, e2]
    · intro d hd
      rcases List.mem_append.mp hd with hd | hd
      · exact w.deed d hd
      · have d2 : d = newDeed h k x u v := by simpa using hd
        rw [d2]
        exact ⟨hx, hx2, hu, hk⟩
    · show (h.all ++ [_]).length ≤ 80
      rw [List.length_append]
      simp
      omega
  exact w1
theorem HouseOk.sent {h : House} (w : HouseOk h) {k j : Nat} (hk : k < h.hands) (hj : j < h.hands) (hl : h.letters.length < 200) :
    HouseOk { h with letters := h.letters ++ [⟨k, j, (h.desk k).has, (h.desk k).clock, h.lacks k j⟩] } := by
  have D := w.at hk
  refine ⟨w.lo, w.hi, w.desks, w.desk, fun m hm => ?_, w.stamp, w.deed, w.allLen, ?_⟩
  · rcases List.mem_append.mp hm with hm | hm
    · exact w.letters m hm
    · have e := List.mem_singleton.mp hm
      subst e
      have sub : ∀ d ∈ h.lacks k j, d ∈ (h.desk k).kept := fun d hd => (List.mem_filter.mp hd).1
      exact ⟨hk, hj, D.has, D.kept.filter _, fun d hd => D.keptAll d (sub d hd), fun d hd => D.keptWas d (sub d hd)⟩
  · show (h.letters ++ [_]).length ≤ 200
    rw [List.length_append]
    simp
    omega
theorem added_ne {h : House} (w : HouseOk h) {x : Desk} {k : Nat} (D : DeskOk h.hands h.all k x) {m : Letter} (M : LetterOk h.hands h.all m) : (m.deeds.filter fun d => !x.was d).Pairwise (fun d e => stp d ≠ stp e) ∧ ∀ d ∈ (m.deeds.filter fun d => !x.was d), ∀ e ∈ x.kept, stp d ≠ stp e := by
  refine ⟨(M.deeds.filter _).imp fun b => b.ne, fun d hd e he q => ?_⟩
  have hd := List.mem_filter.mp hd
  have hde : d = e := w.stamp d (M.deedsAll d hd.1) e (D.keptAll e he) q
  have h1 : ¬ d.n ≤ at_ x.has d.desk := by
    have := hd.2
    simpa [Sq33.Desk.was] using this
  exact h1 (hde ▸ D.keptWas e he)
theorem HouseOk.came {h : House} (w : HouseOk h) {m : Letter} (hm : m ∈ h.letters) : HouseOk (h.set m.to ((h.desk m.to).gets m)) := by
  have M := w.letters m hm
  have D := w.at M.to
  have A := added_ne w D M
  have E := enters_ok A.1 A.2 D.kept
  have mem : ∀ d, d ∈ enters (m.deeds.filter fun d => !(h.desk m.to).was d) (h.desk m.to).kept → d ∈ (h.desk m.to).kept ∨ d ∈ m.deeds := fun d hd => by
    rcases List.mem_append.mp (E.1.mem_iff.mp hd) with hd | hd
    · exact .inl hd
    · exact .inr (List.mem_filter.mp hd).1
  refine w.setDesk ⟨by show (most _ _).length = _; rw [most_len]; exact D.has, by show ((h.desk m.to).sure.set _ _).length = _; rw [List.length_set]; exact D.sureL, fun c hc => ?_, by show ((h.desk m.to).heard.set _ _).length = _; rw [List.length_set]; exact D.heard, D.base, E.2, fun d hd => ?_, fun d hd => ?_, fun d hd hk => ?_⟩
  · have hc : c ∈ (h.desk m.to).sure.set m.from_ (most (((h.desk m.to).sure[m.from_]?).getD []) m.has) := hc
    rcases List.mem_or_eq_of_mem_set hc with hc | hc
    · exact D.sureE c hc
    · rw [hc, most_len]
      have hl : m.from_ < (h.desk m.to).sure.length := by rw [D.sureL]; exact M.frm
      rw [List.getElem?_eq_getElem hl]
      exact D.sureE _ (List.getElem_mem hl)
  · rcases mem d hd with hd | hd
    · exact D.keptAll d hd
    · exact M.deedsAll d hd
  · have hall : d ∈ h.all := by
      rcases mem d hd with hd | hd
      · exact D.keptAll d hd
      · exact M.deedsAll d hd
    have hdk := (w.deed d hall).desk
    show d.n ≤ at_ (most (h.desk m.to).has m.has) d.desk
    rw [most_at (by rw [D.has]; exact hdk)]
    rcases mem d hd with hd | hd
    · have := D.keptWas d hd
      omega
    · have := M.deedsHas d hd
      omega
  · have := D.made d hd hk
    show (stp d).count ≤ max (h.desk m.to).clock m.clock
    omega
theorem HouseOk.forgot {h : House} (w : HouseOk h) {k : Nat} (hk : k < h.hands) : HouseOk (h.set k ((h.desk k).forgets (h.ripe k))) := by
  have D := w.at hk
  refine w.setDesk ⟨D.has, D.sureL, D.sureE, D.heard, ?_, ?_, fun d hd => D.keptAll d (List.mem_of_mem_drop hd), fun d hd => D.keptWas d (List.mem_of_mem_drop hd), D.made⟩
  · refine WF.dones (fun d hd => ?_) D.base
    obtain ⟨e, he, rfl⟩ := List.mem_map.mp hd
    have := w.deed e (D.keptAll e ((List.takeWhile_prefix _).subset he))
    exact ⟨this.lo, this.hi⟩
  · exact D.kept.sublist (List.drop_sublist _ _)
theorem HouseOk.tree {h : House} (w : HouseOk h) {k : Nat} (hk : k < h.hands) : WF (h.desk k).tree := by
  have D := w.at hk
  refine WF.dones (fun d hd => ?_) D.base
  obtain ⟨e, he, rfl⟩ := List.mem_map.mp hd
  have := w.deed e (D.keptAll e he)
  exact ⟨this.lo, this.hi⟩
theorem HouseOk.step {h : House} (w : HouseOk h) (c : Sq33.Call) : HouseOk (Sq33.House.step h c).1 := by
  cases c with
  | begin_ n =>
    unfold Sq33.House.step
    dsimp only
    split
    · exact w
    · rename_i h1
      exact houseOk_new (by omega) (by unfold Sq33.HANDS at h1; omega)
  | move k x u v =>
    unfold Sq33.House.step
    dsimp only
    split
    · exact w
    · split
      · exact w
      · split
        · exact w
        · rename_i h1 h2 h3
          unfold Sq28.THINGS at h2
          unfold Sq33.DEEDS at h3
          exact w.moved (by omega) (by omega) (by omega) (by omega) (by omega)
  | send k j =>
    unfold Sq33.House.step
    dsimp only
    split
    · exact w
    · split
      · exact w
      · rename_i h1 h2
        unfold Sq33.LETTERS at h2
        exact w.sent (by omega) (by omega) (by omega)
  | comes i =>
    unfold Sq33.House.step
    dsimp only
    split
    · exact w
    · rename_i m hm
      exact w.came (List.mem_of_getElem? hm)
  | forget k =>
    unfold Sq33.House.step
    dsimp only
    split
    · exact w
    · exact w.forgot (by omega)
  | tree k => unfold Sq33.House.step; dsimp only; split <;> exact w
  | bin k => unfold Sq33.House.step; dsimp only; split <;> exact w
  | kept k => unfold Sq33.House.step; dsimp only; split <;> exact w
  | settled k => unfold Sq33.House.step; dsimp only; split <;> exact w
  | ripe k => unfold Sq33.House.step; dsimp only; split <;> exact w
  | same k j => unfold Sq33.House.step; dsimp only; split <;> exact w
end Bt
namespace Bt
open PySem PySem.Spec PyProof.Rows L2
open Sq33 (Deed Desk House Letter Counts at_ most enter)
open Sq28 (Place)

/-! ## the text by places -/
def top (i : Nat) : Stmt := PySem.Challenge.pw_binnedtrees_s01_answers.main.body.getD i (.Pass ⟨0, 0, 0, 0⟩)

/-! ## heaps: what is no instance stays -/
def isIns : HO → Bool
  | .ins _ _ _ => true
  | _ => false
def Keep (H H' : Hp) : Prop := ∀ b o, H b = some o → isIns o = false → H' b = some o
theorem Keep.refl (H : Hp) : Keep H H := fun _ _ h _ => h
theorem Keep.trans {H H1 H2 : Hp} (a : Keep H H1) (b : Keep H1 H2) : Keep H H2 := fun c o h n => b c o (a c o h n) n
theorem Keep.of {H H' : Hp} (s : Same H H') : Keep H H' := fun b o h _ => s b o h
theorem Keep.ins {H : Hp} {a C dx : Addr} {fs : List (Str × V)} {o : HO} (h : H a = some (.ins C dx fs)) : Keep H (upd H a o) := fun b u e n => by
  by_cases q : b = a
  · subst q
    rw [h] at e
    cases e
    cases n
  · rw [upd_ne q]
    exact e
theorem Keep.lst {H H' : Hp} (k : Keep H H') {a : Addr} {xs : List V} (h : H a = some (.lst xs)) : H' a = some (.lst xs) := k a _ h rfl
theorem Keep.tup {H H' : Hp} (k : Keep H H') {a : Addr} {xs : List V} (h : H a = some (.tup xs)) : H' a = some (.tup xs) := k a _ h rfl
theorem Keep.but {H H' : Hp} {a C dx : Addr} {fs : List (Str × V)} (h : H a = some (.ins C dx fs)) (k : ∀ b o, H b = some o → b ≠ a → H' b = some o) : Keep H H' := fun b o e n => k b o e fun q => by
  subst q
  rw [h] at e
  cases e
  cases n
theorem same_new {H : Hp} {p : Addr} {o : HO} (h : H p = none) : Same H (upd H p o) := fun a u e => by
  rw [upd_ne (ne_of_none e h)]
  exact e
/-- an object that H does not know may change -/
theorem same_mut {H H' : Hp} {p : Addr} {o : HO} (e : Same H H') (h : H p = none) : Same H (upd H' p o) := fun a u ha => by
  rw [upd_ne (ne_of_none ha h)]
  exact e a u ha
theorem keep_mut {H H' : Hp} {p : Addr} {o : HO} (e : Keep H H') (h : H p = none) : Keep H (upd H' p o) := fun a u ha n => by
  rw [upd_ne (ne_of_none ha h)]
  exact e a u ha n

/-- what H' has at addresses that H did not know -/
def Fresh (H H' : Hp) : Hp := fun b => match H b with
  | none => H' b
  | some _ => none
theorem fresh_at {H H' : Hp} {b : Addr} {o : HO} (h : H b = none) (h' : H' b = some o) : Fresh H H' b = some o := by
  unfold Fresh
  rw [h]
  exact h'
theorem fresh_is {H H' : Hp} {b : Addr} {o : HO} (h : Fresh H H' b = some o) : H b = none ∧ H' b = some o := by
  unfold Fresh at h
  cases e : H b with
  | none =>
    rw [e] at h
    exact ⟨rfl, h⟩
  | some u =>
    rw [e] at h
    cases h
theorem fresh_sub (H H' : Hp) : Same (Fresh H H') H' := fun _ _ h => (fresh_is h).2
theorem fresh_mono {H H' G G' : Hp} (h : ∀ b, H b = none → G b = none) (k : Keep H' G') : Keep (Fresh H H') (Fresh G G') := fun b o e n => by
  obtain ⟨h1, h2⟩ := fresh_is e
  exact fresh_at (h b h1) (k b o h2 n)

/-! ## data -/
abbrev vN (n : Nat) : V := .int (n : Int)
/-- counts -/
def CtAt (H : Hp) (a : Addr) (c : List Nat) : Prop := H a = some (.lst (c.map vN))
def mvV (d : Deed) : List V := [vN d.move.stamp.count, vN d.move.stamp.hand, vN d.n, vN d.move.thing, vN d.move.under, vN d.move.label]
/-- a move -/
def MvAt (H : Hp) (v : V) (d : Deed) : Prop := ∃ a, v = .ref a ∧ H a = some (.tup (mvV d))
abbrev MvsAt (H : Hp) (vs : List V) (ds : List Deed) : Prop := PySem.Paired (MvAt H) vs ds
/-- a list of moves -/
def LgAt (H : Hp) (a : Addr) (ds : List Deed) : Prop := ∃ vs, H a = some (.lst vs) ∧ MvsAt H vs ds
def vI (i : Int) : V := .int i
/-- a tree -/
def TrAt (H : Hp) (a : Addr) (t : Sq28.Tree) : Prop := ∃ p l, H a = some (.tup [.ref p, .ref l]) ∧ H p = some (.lst ((pars t).map V.int)) ∧ H l = some (.lst ((labs t).map V.int))
/-- a list of counts -/
def CfAt (H : Hp) (a : Addr) (cs : List Counts) : Prop := ∃ vs, H a = some (.lst vs) ∧ PySem.Paired (fun v c => ∃ b, v = .ref b ∧ CtAt H b c) vs cs
/-- a message -/
def LtAt (H : Hp) (v : V) (m : Letter) : Prop := ∃ a c l, v = .ref a ∧ H a = some (.tup [vN m.from_, vN m.to, .ref c, vN m.clock, .ref l]) ∧ CtAt H c m.has ∧ LgAt H l m.deeds

section
variable {H H' : Hp}
theorem CtAt.keep (k : Keep H H') {a : Addr} {c : List Nat} (h : CtAt H a c) : CtAt H' a c := k.lst h
theorem MvAt.keep (k : Keep H H') {v : V} {d : Deed} (h : MvAt H v d) : MvAt H' v d := by
  obtain ⟨a, e, h⟩ := h
  exact ⟨a, e, k.tup h⟩
theorem MvsAt.keep (k : Keep H H') {vs : List V} {ds : List Deed} (h : MvsAt H vs ds) : MvsAt H' vs ds := Paired.mapP h fun _ _ q => q.keep k
theorem LgAt.keep (k : Keep H H') {a : Addr} {ds : List Deed} (h : LgAt H a ds) : LgAt H' a ds := by
  obtain ⟨vs, e, h⟩ := h
  exact ⟨vs, k.lst e, h.keep k⟩
theorem TrAt.keep (k : Keep H H') {a : Addr} {t : Sq28.Tree} (h : TrAt H a t) : TrAt H' a t := by
  obtain ⟨p, l, e, h1, h2⟩ := h
  exact ⟨p, l, k.tup e, k.lst h1, k.lst h2⟩
theorem CfAt.keep (k : Keep H H') {a : Addr} {cs : List Counts} (h : CfAt H a cs) : CfAt H' a cs := by
  obtain ⟨vs, e, h⟩ := h
  refine ⟨vs, k.lst e, Paired.mapP h ?_⟩
  rintro v c ⟨b, e1, e2⟩
  exact ⟨b, e1, e2.keep k⟩
theorem LtAt.keep (k : Keep H H') {v : V} {m : Letter} (h : LtAt H v m) : LtAt H' v m := by
  obtain ⟨a, c, l, e, h1, h2, h3⟩ := h
  exact ⟨a, c, l, e, k.tup h1, h2.keep k, h3.keep k⟩
end

/-! ## pairs of lists -/
section
variable {α β : Type} {F : α → β → Prop}
theorem pr_get : ∀ {l : List α} {m : List β}, PySem.Paired F l m → ∀ {i : Nat} {b : β}, m[i]? = some b → ∃ a, l[i]? = some a ∧ F a b
  | _, _, .nil, i, b, h => by simp at h
  | a :: l, c :: m, .cons r t, 0, b, h => by
    have e : c = b := by simpa using h
    subst e
    exact ⟨a, rfl, r⟩
  | a :: l, c :: m, .cons r t, i + 1, b, h => by
    have h' : m[i]? = some b := by simpa using h
    obtain ⟨x, e, q⟩ := pr_get t h'
    exact ⟨x, by simpa using e, q⟩
theorem pr_got : ∀ {l : List α} {m : List β}, PySem.Paired F l m → ∀ {i : Nat} {a : α}, l[i]? = some a → ∃ b, m[i]? = some b ∧ F a b
  | _, _, .nil, i, b, h => by simp at h
  | a :: l, c :: m, .cons r t, 0, b, h => by
    have e : a = b := by simpa using h
    subst e
    exact ⟨c, rfl, r⟩
  | a :: l, c :: m, .cons r t, i + 1, b, h => by
    have h' : l[i]? = some b := by simpa using h
    obtain ⟨x, e, q⟩ := pr_got t h'
    exact ⟨x, by simpa using e, q⟩
theorem pr_app : ∀ {l : List α} {m : List β} {l2 : List α} {m2 : List β}, PySem.Paired F l m → PySem.Paired F l2 m2 → PySem.Paired F (l ++ l2) (m ++ m2)
  | _, _, _, _, .nil, s => s
  | _, _, _, _, .cons r t, s => .cons r (pr_app t s)
theorem pr_take : ∀ {l : List α} {m : List β} (n : Nat), PySem.Paired F l m → PySem.Paired F (l.take n) (m.take n)
  | _, _, 0, _ => .nil
  | _, _, _ + 1, .nil => .nil
  | _, _, n + 1, .cons r t => .cons r (pr_take n t)
theorem pr_drop : ∀ {l : List α} {m : List β} (n : Nat), PySem.Paired F l m → PySem.Paired F (l.drop n) (m.drop n)
  | _, _, 0, r => r
  | _, _, _ + 1, .nil => .nil
  | _, _, n + 1, .cons _ t => pr_drop n t
theorem pr_rev : ∀ {l : List α} {m : List β}, PySem.Paired F l m → PySem.Paired F l.reverse m.reverse
  | _, _, .nil => .nil
  | a :: l, b :: m, .cons r t => by
    rw [List.reverse_cons, List.reverse_cons]
    exact pr_app (pr_rev t) (.cons r .nil)
theorem pr_set : ∀ {l : List α} {m : List β} {x : α} {y : β} (i : Nat), PySem.Paired F l m → F x y → PySem.Paired F (l.set i x) (m.set i y)
  | _, _, _, _, _, .nil, _ => .nil
  | _, _, _, _, 0, .cons _ t, r => .cons r t
  | _, _, _, _, i + 1, .cons q t, r => .cons q (pr_set i t r)
theorem pr_last {l : List α} {m : List β} {x : α} {y : β} (h : PySem.Paired F l m) (r : F x y) : PySem.Paired F (l ++ [x]) (m ++ [y]) := pr_app h (.cons r .nil)
end
theorem take_more {α : Type} {l : List α} {i : Nat} {x : α} (h : l[i]? = some x) : l.take (i + 1) = l.take i ++ [x] := by
  obtain ⟨h1, e⟩ := List.getElem?_eq_some_iff.mp h
  rw [List.take_succ_eq_append_getElem h1, e]
theorem map_get {α β : Type} {f : α → β} {l : List α} {i : Nat} {y : β} (h : (l.map f)[i]? = some y) : ∃ x, l[i]? = some x ∧ y = f x := by
  rw [List.getElem?_map] at h
  cases e : l[i]? with
  | none =>
    rw [e] at h
    cases h
  | some x =>
    rw [e] at h
    exact ⟨x, rfl, (Option.some.inj h).symm⟩

/-! ## lists in the program -/
theorem at_map {α : Type} {f : α → V} {l : List α} {z : Int} {j : Nat} {x : α} (e : z = (j : Int)) (h : l[j]? = some x) : atI (l.map f) z = some (f x) :=
  at_of e (by rw [List.getElem?_map, h]; rfl)
theorem len_small {n : Nat} (h : n ≤ 10000000) : n < sizeLine := Nat.lt_of_le_of_lt h (by decide)
theorem len_le {n : Nat} (h : n ≤ 10000000) : n ≤ sizeLine := Nat.le_of_lt (len_small h)

/-! ## defs and methods that may be called -/
structure DefAt (K : PySem.W.Frag) (mg : Str → Option Value) (x : Str) (st : Stmt) (ps : List Str) : Prop where
  ex : ∃ (f : Addr) (fd : FuncData), mg x = some (.ref f) ∧ Fun K x x st f fd ∧ Binds K fd ps []
structure MethAt (K : PySem.W.Frag) (C : Addr) (m qual : Str) (st : Stmt) (ps : List Str) : Prop where
  ex : ∃ (f : Addr) (fd : FuncData), Meth K C m f ∧ Fun K m qual st f fd ∧ Binds K fd ps []
structure InitAt (K : PySem.W.Frag) (mg : Str → Option Value) (x : Str) (C : Addr) (qual : Str) (st : Stmt) (ps : List Str) : Prop where
  ex : ∃ (f : Addr) (fd : FuncData), Mk K C f ∧ mg x = some (.ref C) ∧ Fun K "__init__" qual st f fd ∧ Binds K fd ps []
structure CalD (P : Program) (w : World) (K : PySem.W.Frag) (mg : Str → Option Value) (base : Heap) (k : Nat) (x : Str) (ps : List Str) (sp : Sp) : Prop where
  ex : ∃ (f : Addr) (fd : FuncData), FnOk P w K mg base CX0 k f fd ps sp ∧ mg x = some (.ref f) ∧ PySem.W.keepIn K (.ref f) = true ∧ Binds K fd ps []
structure CalM (P : Program) (w : World) (K : PySem.W.Frag) (mg : Str → Option Value) (base : Heap) (k : Nat) (C : Addr) (m : Str) (ps : List Str) (sp : Sp) : Prop where
  ex : ∃ (f : Addr) (fd : FuncData), Cls K C ∧ Meth K C m f ∧ FnOk P w K mg base CX0 k f fd ps sp ∧ Binds K fd ps []
structure CalC (P : Program) (w : World) (K : PySem.W.Frag) (mg : Str → Option Value) (base : Heap) (k : Nat) (x : Str) (C : Addr) (ps : List Str) (sp : Sp) : Prop where
  ex : ∃ (f : Addr) (fd : FuncData), Mk K C f ∧ FnOk P w K mg base CX0 k f fd ps sp ∧ mg x = some (.ref C) ∧ Binds K fd ps []
section
variable {P : Program} {w : World} {K : PySem.W.Frag} {mg : Str → Option Value} {base : Heap} {N ps : List Str} {k : Nat} {sp : Sp} {x m qual : Str} {st : Stmt} {C : Addr}
theorem DefAt.ok (D : DefAt K mg x st ps) (S : FnScope N ps (defScope st)) (len : ∀ vs H Q E, sp vs H Q E → vs.length = ps.length)
    (hbody : ∀ (f : Addr) (cdv : Value) (A : Around) (outer : List Env) (s : Shared) (H : Hp) (vs : List V) (Q : VK) (E : XK), Room k (A.deeper (envOfC x (defScope st) s.heap.objs.size f cdv)) → sp vs H Q E →
      ∃ t, PSs (cxOf CX0 P w K mg base N x (defScope st) f cdv A outer s H E).nox (defBody st) t ∧ t { nx := fun _ H' => Q .non H', rt := Q } (start N vs) H) : CalD P w K mg base (k + 1) x ps sp := by
  obtain ⟨f, fd, hm, F, b⟩ := D.ex
  exact ⟨f, fd, F.ok S len (hbody f), hm, F.kp, b⟩
theorem MethAt.ok (D : MethAt K C m qual st ps) (c : Cls K C) (S : FnScope N ps (defScope st)) (len : ∀ vs H Q E, sp vs H Q E → vs.length = ps.length)
    (hbody : ∀ (f : Addr) (cdv : Value) (A : Around) (outer : List Env) (s : Shared) (H : Hp) (vs : List V) (Q : VK) (E : XK), Room k (A.deeper (envOfC qual (defScope st) s.heap.objs.size f cdv)) → sp vs H Q E →
      ∃ t, PSs (cxOf CX0 P w K mg base N qual (defScope st) f cdv A outer s H E).nox (defBody st) t ∧ t { nx := fun _ H' => Q .non H', rt := Q } (start N vs) H) : CalM P w K mg base (k + 1) C m ps sp := by
  obtain ⟨f, fd, hm, F, b⟩ := D.ex
  exact ⟨f, fd, c, hm, F.ok S len (hbody f), b⟩
theorem InitAt.ok (D : InitAt K mg x C qual st ps) (S : FnScope N ps (defScope st)) (len : ∀ vs H Q E, sp vs H Q E → vs.length = ps.length)
    (hbody : ∀ (f : Addr) (cdv : Value) (A : Around) (outer : List Env) (s : Shared) (H : Hp) (vs : List V) (Q : VK) (E : XK), Room k (A.deeper (envOfC qual (defScope st) s.heap.objs.size f cdv)) → sp vs H Q E →
      ∃ t, PSs (cxOf CX0 P w K mg base N qual (defScope st) f cdv A outer s H E).nox (defBody st) t ∧ t { nx := fun _ H' => Q .non H', rt := Q } (start N vs) H) : CalC P w K mg base (k + 1) x C ps sp := by
  obtain ⟨f, fd, M, hm, F, b⟩ := D.ex
  exact ⟨f, fd, M, F.ok S len (hbody f), hm, b⟩
end
section
variable {X : Cx} {k j : Nat} {C : Addr} {x m : Str} {ps : List Str} {sp : Sp} {p pos apos : Pos} {e o : Expr} {es : List Expr} {ta : TE} {t : TA}
theorem qc (c : CalD X.prog X.w X.K X.mg X.base k x ps sp) (hr : Room j X.A) (hk : k ≤ j) (hg : Gl X x) (ha : PA X (e :: es) t)
    (hdb : (x == ("__debug__" : Str)) = false := by decide) (he : starEach (e :: es) X.env = (false, eval e X.env) :: starEach es X.env := by rfl) (hpl : (backTo pos (starEach es X.env)).any (·.1) = false := by rfl) :
    PE X (.Call (.Name x p) (e :: es) [] pos) (tCall sp [] E0 t) := by
  obtain ⟨f, fd, F, hm, kp, b⟩ := c.ex
  exact pe_call F (hr.mono hk) hg hm kp b .nil pass0 ha hdb he hpl
theorem qc0 (c : CalD X.prog X.w X.K X.mg X.base k x ps sp) (hr : Room j X.A) (hk : k ≤ j) (hg : Gl X x) (hdb : (x == ("__debug__" : Str)) = false := by decide) :
    PE X (.Call (.Name x p) [] [] pos) (tCall sp [] E0 tNil) := by
  obtain ⟨f, fd, F, hm, kp, b⟩ := c.ex
  exact pe_call0 F (hr.mono hk) hg hm kp b .nil pass0 hdb
theorem qmk (c : CalC X.prog X.w X.K X.mg X.base k x C ps sp) (hr : Room j X.A) (hk : k + 1 ≤ j) (hg : Gl X x) (ha : PA X (e :: es) t)
    (hdb : (x == ("__debug__" : Str)) = false := by decide) (he : starEach (e :: es) X.env = (false, eval e X.env) :: starEach es X.env := by rfl) (hpl : (backTo pos (starEach es X.env)).any (·.1) = false := by rfl) :
    PE X (.Call (.Name x p) (e :: es) [] pos) (tMake C sp [] E0 t) := by
  obtain ⟨f, fd, M, F, hm, b⟩ := c.ex
  exact pe_make M F (hr.mono hk) hg hm b .nil pass0 ha hdb he hpl
theorem qmk0 (c : CalC X.prog X.w X.K X.mg X.base k x C ps sp) (hr : Room j X.A) (hk : k + 1 ≤ j) (hg : Gl X x) (hdb : (x == ("__debug__" : Str)) = false := by decide) :
    PE X (.Call (.Name x p) [] [] pos) (tMake C sp [] E0 tNil) := by
  obtain ⟨f, fd, M, F, hm, b⟩ := c.ex
  exact pe_make0 M F (hr.mono hk) hg hm b .nil pass0 hdb
theorem qm {pl : Sem Bool} (c : CalM X.prog X.w X.K X.mg X.base k C m ps sp) (hr : Room j X.A) (hk : k ≤ j) (he : PE X o ta) (ha : PA X (e :: es) t)
    (hst : starEach (e :: es) X.env = (false, eval e X.env) :: starEach es X.env := by rfl) (hpl : (backTo pos (starEach es X.env)).any (·.1) = false := by rfl)
    (ht : eval (.Call (.Attribute o m apos) (e :: es) [] pos) X.env = (do
      let ov ← eval o X.env
      standAt apos.atName
      let (f, first) ← holding [ov] (getMethod ov m pl)
      callWith pos f first (backTo pos (starEach (e :: es) X.env)) (backToKw pos (keywordEach [] X.env))) := by rfl) :
    PE X (.Call (.Attribute o m apos) (e :: es) [] pos) (tMeth C m sp [] E0 ta t) := by
  obtain ⟨f, fd, hc, hm, F, b⟩ := c.ex
  exact pe_meth (pl := pl) he hc hm F (hr.mono hk) b .nil pass0 ha hst hpl ht
theorem qm0 {pl : Sem Bool} (c : CalM X.prog X.w X.K X.mg X.base k C m ps sp) (hr : Room j X.A) (hk : k ≤ j) (he : PE X o ta)
    (ht : eval (.Call (.Attribute o m apos) [] [] pos) X.env = (do
      let ov ← eval o X.env
      standAt apos.atName
      let (f, first) ← holding [ov] (getMethod ov m pl)
      callWith pos f first (backTo pos (starEach [] X.env)) (backToKw pos (keywordEach [] X.env))) := by rfl) :
    PE X (.Call (.Attribute o m apos) [] [] pos) (tMeth C m sp [] E0 ta tNil) := by
  obtain ⟨f, fd, hc, hm, F, b⟩ := c.ex
  exact pe_meth0 (pl := pl) he hc hm F (hr.mono hk) b .nil pass0 ht
end

/-! ## a constant of the module -/
def IntG (mg : Str → Option Value) (x : Str) (i : Int) : Prop := ∃ t, mg x = some (.int i t)
theorem qg {X : Cx} {x : Str} {i : Int} {p : Pos} (h : IntG X.mg x i) (hg : Gl X x := by rfl) (hdb : (x == ("__debug__" : Str)) = false := by decide) : PE X (.Name x p) (tC (.int i)) := by
  obtain ⟨t, h⟩ := h
  exact pe_glob hg h ⟨t, rfl⟩ hdb
end Bt
namespace Bt
open PySem PySem.Spec PyProof.Rows L2
open Sq33 (Deed Desk House Letter Counts at_ most enter)
/-! ## sorted(a list of moves) -/
def dN (n : Nat) : PyData := .int (n : Int)
def encD (d : Deed) : PyData := .tuple [dN d.move.stamp.count, dN d.move.stamp.hand, dN d.n, dN d.move.thing, dN d.move.under, dN d.move.label]
def leD : Deed → Deed → Bool := PySem.W.dataLe false encD
theorem mv_dp {K : PySem.W.Frag} {H : Hp} {v : V} {d : Deed} (h : MvAt H v d) : Dp K H v (encD d) := by
  obtain ⟨a, e, h⟩ := h
  subst e
  exact .tup (.inl (.inl h)) (.cons (.int _) (.cons (.int _) (.cons (.int _) (.cons (.int _) (.cons (.int _) (.cons (.int _) .nil))))))
theorem vals_each {R : Value → Deed → Prop} {F : V → Deed → Prop} (hF : ∀ v u d, F v d → RelV v u → R u d) : ∀ {xs : List V} {us : List Value} {ds : List Deed}, Vals xs us → PySem.Paired F xs ds → PySem.W.EachIs R us ds
  | _, _, _, .nil, .nil => .nil
  | _, _, _, .cons r t, .cons q s => .cons (hF _ _ _ q r) (vals_each hF t s)
theorem each_vals {R : Value → Deed → Prop} {F : V → Deed → Prop} (hR : ∀ u d, R u d → ∃ v, F v d ∧ RelV v u) : ∀ {us : List Value} {ds : List Deed}, PySem.W.EachIs R us ds → ∃ xs, Vals xs us ∧ PySem.Paired F xs ds
  | _, _, .nil => ⟨[], .nil, .nil⟩
  | _, _, .cons r t => by
    obtain ⟨v, f, rv⟩ := hR _ _ r
    obtain ⟨xs, h1, h2⟩ := each_vals hR t
    exact ⟨v :: xs, .cons rv h1, .cons f h2⟩
def rSortMv : List V → Hp → VK → Prop := fun vs H Q => ∃ (a : Addr) (xs : List V) (ds : List Deed), vs = [V.ref a] ∧ H a = some (.lst xs) ∧ MvsAt H xs ds ∧ ds.length ≤ 1000 ∧
  ∀ ys p, MvsAt H ys (ds.mergeSort leD) → H p = none → Q (.ref p) (upd H p (.lst ys))
theorem cr_sortMv {X : Cx} (hu : X.A.units + 64 < cLine) : CallR X (.builtin "sorted") rSortMv := by
  intro pins s σ H vs us Q I r h
  obtain ⟨a, xs, ds, rfl, hs, hx, hlen, q⟩ := h
  obtain ⟨its, rv, hl, hz⟩ := I.list (show SqL X.K H a xs from .inl (.inl hs))
  obtain ⟨u, rfl, ru⟩ := vals1 r
  obtain rfl : u = Value.ref a := ru
  refine PySem.W.sorted_data (β := Deed) (vs := its) (bs := ds) (enc := encD) (R := fun u d => ∃ v, MvAt H v d ∧ RelV v u) hl.isList (vals_each (fun v u d f r => ⟨v, f, r⟩) rv hx)
    (vals_each (fun v u d f r => Dp.reads I (encD d) v u (mv_dp f) r) rv hx) (PySem.W.AllAlike.of fun b b' => ?_) (PySem.W.Sortable.tuples fun b => ⟨_, _, rfl⟩) (len_le (by omega)) (fun b _ => ?_) fun out ho ho2 => ?_
  · rfl
  · have e : (encD b).depth = 1 := rfl
    rw [e]
    omega
  · obtain ⟨ys, h1, h2⟩ := each_vals (F := MvAt H) (fun u d h => h) ho2
    obtain ⟨n, hn⟩ := sortedAll_at s.heap its out.toArray
    have hd : s.heap.objs.size ≤ s.heap.objs.size + 1 := Nat.le_succ _
    refine ⟨.ref (s.heap.objs.size + 1), upd H (s.heap.objs.size + 1) (.lst ys), I.laid (t' := s.toks) (fun b o e => sortedAll_old e) hd ⟨?_, out, n, h1, hn⟩, rfl, q ys _ h2 (I.hok.fresh hd)⟩
    rw [h2.length, List.length_mergeSort]
    exact len_le (by omega)

/-! the order -/
theorem lt_int2 (x y : Nat) (xs ys : List PyData) : PyProof.Rows.lexLt PyProof.Rows.itemOrd (PySem.W.keyToksAll (dN x :: xs)) (PySem.W.keyToksAll (dN y :: ys)) = if x = y then PyProof.Rows.lexLt PyProof.Rows.itemOrd (PySem.W.keyToksAll xs) (PySem.W.keyToksAll ys) else decide (x < y) := by
  rw [PySem.W.dataLt_cons (x := dN x) (y := dN y) rfl]
  have e : PyData.eqv (dN x) (dN y) = decide (x = y) := by
    show ((x : Int) == (y : Int)) = decide (x = y)
    by_cases h : x = y
    · subst h; simp
    · rw [decide_eq_false h]
      exact beq_eq_false_iff_ne.mpr fun q => h (by omega)
  rw [e]
  by_cases h : x = y
  · subst h; simp
  · simp only [h, decide_false, if_false, Bool.false_eq_true]
    show PySem.W.dataLt (.int (x : Int)) (.int (y : Int)) = _
    rw [PySem.W.dataLt_int]
    by_cases h2 : x < y
    · rw [decide_eq_true h2, decide_eq_true (by omega)]
    · rw [decide_eq_false h2, decide_eq_false (by omega)]
theorem dlt_of {d e : Deed} (n : stp d ≠ stp e) : PySem.W.dataLt (encD d) (encD e) = (stp d).before (stp e) := by
  unfold encD
  rw [PySem.W.dataLt_tuple, lt_int2, lt_int2]
  unfold Sq28.Stamp.before
  by_cases h : d.move.stamp.count = e.move.stamp.count
  · rw [if_pos h]
    have h2 : ¬ d.move.stamp.hand = e.move.stamp.hand := fun q => n (stamp_ext h q)
    rw [if_neg h2]
    simp [h]
  · rw [if_neg h]
    simp [h]
theorem leD_of {d e : Deed} (b : Bef d e) : leD d e = true := by
  show (!PySem.W.dataLt (encD e) (encD d)) = true
  rw [dlt_of (fun q => b.ne q.symm)]
  have h1 := before_iff.mp b
  have h2 : ¬ (stp e).before (stp d) = true := fun q => by
    have := before_iff.mp q
    omega
  simpa using h2
theorem leD_not {d e : Deed} (b : Bef d e) : leD e d = false := by
  show (!PySem.W.dataLt (encD d) (encD e)) = false
  rw [dlt_of b.ne, show (stp d).before (stp e) = true from b]
  rfl
/-- what sorted gives of moves whose timestamps differ: the one list in their order -/
theorem sort_is {bs l : List Deed} (hp : l.Perm bs) (hs : l.Pairwise Bef) : bs.mergeSort leD = l := by
  have T : (bs.mergeSort leD).Pairwise (fun a b => leD a b = true) := PySem.W.sort_pairwise (le := leD) (show PySem.W.TotalLe (PySem.W.sortLe (PyProof.Rows.listOrd PyProof.Rows.itemOrd) false fun b => PySem.W.keyToks (encD b)) from PySem.W.sortLe_total _ _ _) bs
  have P : (bs.mergeSort leD).Perm l := (List.mergeSort_perm bs leD).trans hp.symm
  generalize bs.mergeSort leD = m at T P
  clear hp
  induction l generalizing m with
  | nil => exact P.eq_nil
  | cons a l ih =>
    have hs' := List.pairwise_cons.mp hs
    cases m with
    | nil => exact absurd P.length_eq (by simp)
    | cons b m =>
      have T' := List.pairwise_cons.mp T
      have hab : b = a := by
        rcases List.mem_cons.mp (P.mem_iff.mp (List.mem_cons_self (a := b) (l := m))) with e | e
        · exact e
        · rcases List.mem_cons.mp (P.mem_iff.mpr (List.mem_cons_self (a := a) (l := l))) with e2 | e2
          · exact e2.symm
          · have h1 := T'.1 a e2
            rw [leD_not (hs'.1 b e)] at h1
            cases h1
      subst hab
      rw [ih hs'.2 m T'.2 P.cons_inv]
end Bt
namespace Bt
open PySem PySem.Spec PyProof.Rows L2
open Sq33 (Deed Desk House Letter Counts at_ most enter)

/-! ## slices, a comprehension over zip -/
theorem cut_to (xs : List V) (i : Nat) : cutV xs none (some (i : Int)) = xs.take i := by
  unfold cutV
  rw [HT.sIx_none, HT.sIx_nat, List.drop_zero, Nat.sub_zero]
  by_cases h : i ≤ xs.length
  · rw [Nat.min_eq_left h]
  · rw [Nat.min_eq_right (by omega), List.take_of_length_le (Nat.le_refl _), List.take_of_length_le (by omega)]
theorem cut_from (xs : List V) (i : Nat) : cutV xs (some (i : Int)) none = xs.drop i := by
  unfold cutV
  rw [HT.sIx_none, HT.sIx_nat]
  by_cases h : i ≤ xs.length
  · rw [Nat.min_eq_left h, List.take_of_length_le (by rw [List.length_drop]; omega)]
  · rw [Nat.min_eq_right (by omega), List.drop_of_length_le (Nat.le_refl _), List.drop_of_length_le (by omega), List.take_nil]
theorem cut_part (xs : List V) (i j : Nat) (h : i ≤ xs.length) (h2 : j ≤ xs.length) : cutV xs (some (i : Int)) (some (j : Int)) = (xs.drop i).take (j - i) := by
  unfold cutV
  rw [HT.sIx_nat, HT.sIx_nat, Nat.min_eq_left h, Nat.min_eq_left h2]
theorem lc_zip {K : PySem.W.Frag} {a b : Addr} {xs ys : List V} {g : TG} {tt : TT} {te : TE} {vs : List Nat} {σ : L2.St} {H1 : Hp} {D : Addr} {Qd : Hp → Prop} (hl : xs.length = ys.length) (Pv : Nat → Hp → Prop) (h0 : Pv 0 (upd H1 D (.lst []))) (hq : ∀ i H, Pv i H → SqL K H a xs ∧ SqL K H b ys)
    (hs : ∀ i x y T H, xs[i]? = some x → ys[i]? = some y → Pv i H → H T = none → g (.ref T) (wipe σ vs) (upd H T (.tup [x, y])) fun σ2 H2 => wipe σ2 vs = wipe σ vs ∧ tt σ2 H2 fun b H3 =>
      if b = true then te σ2 H3 fun y H4 => ∃ acc, H4 D = some (.lst acc) ∧ acc.length < sizeLine ∧ Pv (i + 1) (upd H4 D (.lst (acc ++ [y]))) else Pv (i + 1) H3) (hd : ∀ H, Pv xs.length H → Qd H) :
    ∃ W : Nat → Nat → Hp → Prop, (∃ m, W 0 m (upd H1 D (.lst []))) ∧ ∀ i m H, W i m H →
      ((Itz K a b).stop i H ∧ Qd H) ∨ ((Itz K a b).go i H ∧ ∃ Nx : Hp → Prop, (∀ H', Nx H' → ∃ m', m' < m ∧ W (i + 1) m' H') ∧ ∀ x H', (Itz K a b).yld i H x H' → g x (wipe σ vs) H' fun σ2 H2 => wipe σ2 vs = wipe σ vs ∧ tt σ2 H2 fun b H3 =>
        if b = true then te σ2 H3 fun y H4 => ∃ acc, H4 D = some (.lst acc) ∧ acc.length < sizeLine ∧ Nx (upd H4 D (.lst (acc ++ [y]))) else Nx H3) := by
  refine ⟨fun i m H => m = xs.length - i ∧ i ≤ xs.length ∧ Pv i H, ⟨xs.length, by simp, Nat.zero_le _, h0⟩, ?_⟩
  rintro i m H ⟨rfl, hi, p⟩
  obtain ⟨qx, qy⟩ := hq i H p
  by_cases hlt : i < xs.length
  · have hx : xs[i]? = some xs[i] := List.getElem?_eq_getElem hlt
    have hlt2 : i < ys.length := by omega
    have hy : ys[i]? = some ys[i] := List.getElem?_eq_getElem hlt2
    refine .inr ⟨⟨xs, ys, _, _, qx, qy, hx, hy⟩, Pv (i + 1), fun H' p' => ⟨xs.length - (i + 1), by omega, rfl, hlt, p'⟩, fun v H' y => ?_⟩
    obtain ⟨T, x', y', rfl, hT, rfl, f1, f2⟩ := y
    exact hs i x' y' T H (f1 xs qx) (f2 ys qy) p hT
  · have e : i = xs.length := by omega
    subst e
    exact .inl ⟨⟨xs, ys, qx, qy, Or.inl (Nat.le_refl _)⟩, hd H p⟩

/-! ## the promises -/
def spIsBeyond : Sp := fun vs H Q _ => ∃ (v : V) (d : Deed) (a : Addr) (c : List Nat), vs = [v, .ref a] ∧ MvAt H v d ∧ CtAt H a c ∧ d.desk < c.length ∧ Q (.bl (!decide (d.n ≤ at_ c d.desk))) H
def spBeyond : Sp := fun vs H Q _ => ∃ (l a : Addr) (ds : List Deed) (c : List Nat), vs = [.ref l, .ref a] ∧ LgAt H l ds ∧ CtAt H a c ∧ (∀ d ∈ ds, d.desk < c.length) ∧ ds.length ≤ 1000 ∧
  ∀ H' p, Same H H' → LgAt H' p (ds.filter fun d => !decide (d.n ≤ at_ c d.desk)) → Q (.ref p) H'
def spGreater : Sp := fun vs H Q _ => ∃ (a b : Addr) (x y : List Nat), vs = [.ref a, .ref b] ∧ CtAt H a x ∧ CtAt H b y ∧ x.length = y.length ∧ x.length ≤ 1000 ∧
  ∀ H' p, Same H H' → CtAt H' p (most x y) → Q (.ref p) H'
def spOneMore : Sp := fun vs H Q _ => ∃ (a : Addr) (k : Nat) (c : List Nat), vs = [.ref a, vN k] ∧ CtAt H a c ∧ k < c.length ∧ c.length ≤ 1000 ∧
  ∀ H' p, Same H H' → CtAt H' p (c.set k (at_ c k + 1)) → Q (.ref p) H'

section
variable {P : Program} {w : World} {K : PySem.W.Frag} {mg : Str → Option Value} {base : Heap}

theorem sc_beyond1 : FnScope ["move", "counts"] ["move", "counts"] (defScope (top 7)) := ⟨rfl, rfl, rfl, by decide +kernel, rfl, by decide +kernel, by decide +kernel⟩
theorem ok_is_beyond (D : DefAt K mg "is_beyond" (top 7) ["move", "counts"]) (gN : IntG mg "NUMBER" 2) (gR : IntG mg "REPLICA" 1) : CalD P w K mg base 1 "is_beyond" ["move", "counts"] spIsBeyond := by
  refine D.ok sc_beyond1 (fun vs H Q E h => ?_) (fun f cdv A outer s H vs Q E hr h => ?_)
  · obtain ⟨v, d, a, c, rfl, _⟩ := h
    rfl
  · obtain ⟨v, d, a, c, rfl, ⟨p, rfl, hp⟩, hc, hd, k⟩ := h
    refine ⟨_, pss_one (ps_ret (pe_cmpR op_gt (pe_ix ix_tup (pv 0) (qg gN) (fun _ _ => rfl)) (pe_ix ix_list (pv 1) (pe_ix ix_tup (pv 0) (qg gR) (fun _ _ => rfl)) (fun _ _ => rfl)) (nomark _))), ?_⟩
    refine ⟨_, rfl, p, _, _, vN d.n, rfl, rfl, .inl (.inl hp), at_of (j := 2) rfl rfl, ?_⟩
    refine ⟨_, rfl, _, rfl, p, _, _, vN d.desk, rfl, rfl, .inl (.inl hp), at_of (j := 1) rfl rfl, ?_⟩
    refine ⟨a, _, _, vN (at_ c d.desk), rfl, rfl, .inl (.inl hc), at_map rfl (at_get hd), ?_⟩
    refine ⟨_, _, rfl, rfl, ?_⟩
    have e : (decide ((at_ c d.desk : Int) < (d.n : Int))) = !decide (d.n ≤ at_ c d.desk) := by
      by_cases h : d.n ≤ at_ c d.desk
      · rw [decide_eq_true h, decide_eq_false (by omega)]
        rfl
      · rw [decide_eq_false h, decide_eq_true (by omega)]
        rfl
    rw [← e] at k
    exact k

theorem sc_beyond : FnScope ["moves", "counts", "move"] ["moves", "counts"] (defScope (top 8)) := ⟨rfl, rfl, rfl, by decide +kernel, rfl, by decide +kernel, by decide +kernel⟩
theorem ok_beyond (D : DefAt K mg "moves_beyond" (top 8) ["moves", "counts"]) (c1 : CalD P w K mg base 1 "is_beyond" ["move", "counts"] spIsBeyond) : CalD P w K mg base 2 "moves_beyond" ["moves", "counts"] spBeyond := by
  refine D.ok sc_beyond (fun vs H Q E h => ?_) (fun f cdv A outer s H vs Q E hr h => ?_)
  · obtain ⟨l, a, ds, c, rfl, _⟩ := h
    rfl
  · obtain ⟨l, a, ds, c, rfl, ⟨ms, hl, hms⟩, hc, hd, hlen, k⟩ := h
    refine ⟨_, pss_one (ps_ret (pe_lc (own := [("move", 2)]) (g := gName 2) rfl sc_beyond.nd (pi_list (pv 0)) (blkOk_by (own := [("move", 2)]) (N := ["moves", "counts", "move"]) (sc := defScope (top 8)) (by decide +kernel))
      (fun _ _ _ _ _ => pg_name (i := 2) sc_beyond.nd rfl (Or.inl rfl)) (fun _ _ _ _ _ => pts_one (pt_val (qc c1 hr (by decide) rfl (pa_cons (pv 2) (pa_cons (pv 1) pa_nil))))) (fun _ _ _ _ _ => pv 2))), ?_⟩
    refine ⟨_, rfl, l, rfl, ⟨_, .inl (.inl hl)⟩, fun p np => ?_⟩
    refine lc_list (K := K) (a := l) (xs := ms) (fun i H' => Same H H' ∧ LgAt H' p ((ds.take i).filter fun d => !decide (d.n ≤ at_ c d.desk))) ⟨same_new np, [], upd_same, .nil⟩ (fun i H' _ h => .inl (.inl (h.1 _ _ hl))) ?_ ?_
    · rintro i x H' hi ⟨s1, acc, hp, ha⟩
      obtain ⟨d, hdi, hx⟩ := pr_got hms hi
      have hx' := hx.keep (Keep.of s1)
      refine ⟨rfl, _, rfl, _, rfl, x, d, a, c, rfl, hx', s1 _ _ hc, hd d (List.mem_of_getElem? hdi), _, rfl, ?_⟩
      have e := take_more hdi
      rw [e, List.filter_append, List.filter_cons, List.filter_nil]
      by_cases hb : (!decide (d.n ≤ at_ c d.desk)) = true
      · rw [hb]
        refine iteT ⟨_, rfl, acc, hp, ?_, ?_⟩
        · rw [ha.length]
          exact len_small (by have := List.length_filter_le (fun d => !decide (d.n ≤ at_ c d.desk)) (ds.take i); rw [List.length_take] at this; omega)
        · have s2 : Same H (upd H' p (.lst (acc ++ [x]))) := same_mut s1 np
          refine ⟨s2, acc ++ [x], upd_same, pr_last ?_ (hx.keep (Keep.of s2))⟩
          have k2 : Keep H' (upd H' p (.lst (acc ++ [x]))) → True := fun _ => trivial
          refine Paired.mapP ha fun v e' q => ?_
          obtain ⟨b, rfl, hb'⟩ := q
          exact ⟨b, rfl, by rw [upd_ne (ne_of hb' hp (by intro z; cases z))]; exact hb'⟩
      · rw [Bool.not_eq_true] at hb
        rw [hb]
        refine iteF ⟨s1, acc, hp, ?_⟩
        rw [if_neg Bool.false_ne_true, List.append_nil]
        exact ha
    · rintro H' ⟨s1, hp⟩
      rw [hms.length, List.take_length] at hp
      exact k H' p s1 hp

theorem sc_greater : FnScope ["one", "other", "mine", "yours"] ["one", "other"] (defScope (top 9)) := ⟨rfl, rfl, rfl, by decide +kernel, rfl, by decide +kernel, by decide +kernel⟩
theorem ok_greater (D : DefAt K mg "greater_counts" (top 9) ["one", "other"]) (gz : mg "zip" = none) (gm : mg "max" = none) : CalD P w K mg base 1 "greater_counts" ["one", "other"] spGreater := by
  refine D.ok sc_greater (fun vs H Q E h => ?_) (fun f cdv A outer s H vs Q E hr h => ?_)
  · obtain ⟨l, a, ds, c, rfl, _⟩ := h
    rfl
  · obtain ⟨a, b, x, y, rfl, ha, hb, hl, hlen, k⟩ := h
    refine ⟨_, pss_one (ps_ret (pe_lc (own := [("mine", 2), ("yours", 3)]) (g := gTup K 2 (gCons (gName 2) (gCons (gName 3) gNil))) rfl sc_greater.nd (pi_zip rfl gz (pa_cons (pv 0) (pa_cons (pv 1) pa_nil))) (blkOk_by (own := [("mine", 2), ("yours", 3)]) (N := ["one", "other", "mine", "yours"]) (sc := defScope (top 9)) (by decide +kernel))
      (fun _ _ _ _ _ => pg_tup rfl (pgs_cons (pg_name (i := 2) sc_greater.nd rfl (Or.inl rfl)) (pgs_cons (pg_name (i := 3) sc_greater.nd rfl (Or.inl rfl)) pgs_nil)))
      (fun _ _ _ _ _ => pts_nil) (fun _ _ _ _ _ => pe_callB (call_max2 rfl) rfl gm PyProof.Rows.boot_max (pa_cons (pv 2) (pa_cons (pv 3) pa_nil))))), ?_⟩
    refine ⟨_, rfl, _, rfl, a, b, _, _, rfl, .inl (.inl ha), .inl (.inl hb), fun p np => ?_⟩
    refine lc_zip (K := K) (a := a) (b := b) (xs := x.map vN) (ys := y.map vN) (by rw [List.length_map, List.length_map]; exact hl) (fun i H' => Same H H' ∧ CtAt H' p ((most x y).take i)) ⟨same_new np, upd_same⟩ (fun i H' h => ⟨.inl (.inl (h.1 _ _ ha)), .inl (.inl (h.1 _ _ hb))⟩) ?_ ?_
    · rintro i u v T H' hu hv ⟨s1, hp⟩ nT
      obtain ⟨m, hm, rfl⟩ := map_get hu
      obtain ⟨n, hn, rfl⟩ := map_get hv
      have hp2 : upd H' T (.tup [vN m, vN n]) p = some (.lst (((most x y).take i).map vN)) := by
        rw [upd_ne (ne_of_none hp nT)]
        exact hp
      refine ⟨T, _, rfl, .inl (.inl upd_same), rfl, _, _, rfl, _, _, rfl, rfl, rfl, ?_⟩
      refine ⟨_, rfl, _, rfl, _, _, rfl, _, hp2, ?_, fun b' o e => ?_, ?_⟩
      · rw [List.length_map, List.length_take]
        refine len_small ?_
        rw [most_len]
        omega
      · rw [upd_ne (ne_of_none e np), upd_ne (ne_of_none (s1 _ _ e) nT)]
        exact s1 _ _ e
      · have e1 : (most x y)[i]? = some (max m n) := by
          have hi : i < x.length := (List.getElem?_eq_some_iff.mp hm).1
          have h1 : at_ x i = m := by unfold at_; rw [hm]; rfl
          have h2 : at_ y i = n := by unfold at_; rw [hn]; rfl
          rw [at_get (by rw [most_len]; exact hi), most_at hi, h1, h2]
        unfold CtAt
        rw [upd_same, take_more e1, List.map_append]
        have e2 : (if (n : Int) > (m : Int) then (n : Int) else (m : Int)) = ((max m n : Nat) : Int) := by
          split <;> omega
        rw [e2]
        rfl
    · rintro H' ⟨s1, hp⟩
      rw [List.length_map, List.take_of_length_le (by rw [most_len]; exact Nat.le_refl _)] at hp
      exact k H' p s1 hp

theorem sc_onemore : FnScope ["counts", "replica"] ["counts", "replica"] (defScope (top 10)) := ⟨rfl, rfl, rfl, by decide +kernel, rfl, by decide +kernel, by decide +kernel⟩
theorem ok_onemore (D : DefAt K mg "with_one_more" (top 10) ["counts", "replica"]) : CalD P w K mg base 1 "with_one_more" ["counts", "replica"] spOneMore := by
  refine D.ok sc_onemore (fun vs H Q E h => ?_) (fun f cdv A outer s H vs Q E hr h => ?_)
  · obtain ⟨l, a, ds, rfl, _⟩ := h
    rfl
  · obtain ⟨a, i, c, rfl, ha, hi, hlen, k⟩ := h
    refine ⟨_, pss_one (ps_ret (pe_op op_cat (pe_op op_cat (pe_slice sl_list (pv 0) po_none (po_some (pv 1))) (pe_lst (pa_cons (pe_op op_add (pe_ix ix_list (pv 0) (pv 1) (fun _ _ => rfl)) pe_int) pa_nil)))
      (pe_slice sl_list (pv 0) (po_some (pe_op op_add (pv 1) pe_int)) po_none))), ?_⟩
    refine ⟨_, rfl, _, rfl, _, rfl, a, _, rfl, .inl (.inl ha), fun p np => ?_⟩
    have a1 := same_new (o := .lst (cutV (c.map vN) none (some (i : Int)))) np _ _ ha
    refine ⟨_, rfl, _, rfl, a, _, _, vN (at_ c i), rfl, rfl, .inl (.inl a1), at_map rfl (at_get hi), _, _, rfl, rfl, ?_⟩
    refine ⟨(by show 1 ≤ sizeLine; decide), fun q nq => ?_⟩
    refine ⟨p, q, _, _, rfl, rfl, same_new nq _ _ upd_same, upd_same, ?_, fun r nr => ?_⟩
    · rw [cut_to, List.length_take]
      exact len_le (by simp; omega)
    · have a2 := same_new (o := .lst (cutV (c.map vN) none (some (i : Int)) ++ [V.int ((at_ c i : Int) + 1)])) nr _ _ (same_new (o := .lst [V.int ((at_ c i : Int) + 1)]) nq _ _ a1)
      refine ⟨_, rfl, _, rfl, _, _, rfl, rfl, _, rfl, a, _, rfl, .inl (.inl a2), fun t nt => ?_⟩
      refine ⟨r, t, _, _, rfl, rfl, same_new nt _ _ upd_same, upd_same, ?_, fun u nu => ?_⟩
      · have e : ((i : Int) + 1) = ((i + 1 : Nat) : Int) := by omega
        rw [cut_to, e, cut_from]
        simp
        exact len_le (by omega)
      · refine k _ u ((((same_new np).trans (same_new nq)).trans (same_new nr)).trans ((same_new nt).trans (same_new nu))) ?_
        unfold CtAt
        rw [upd_same]
        have e : ((i : Int) + 1) = ((i + 1 : Nat) : Int) := by omega
        rw [cut_to, e, cut_from, ← set_split _ _ _ hi, List.map_append, List.map_append, List.map_take, List.map_drop]
        rfl
end
end Bt
namespace Bt
open PySem PySem.Spec PyProof.Rows L2
open Sq33 (Deed Desk House Letter Counts at_ most enter)
open Sq28 (Place)

theorem iteD {p A B : Prop} [Decidable p] (h1 : p → A) (h2 : ¬ p → B) : if decide p = true then A else B := by
  by_cases h : p
  · rw [if_pos (decide_eq_true h)]
    exact h1 h
  · rw [if_neg (by rw [decide_eq_false h]; exact Bool.false_ne_true)]
    exact h2 h
theorem iteB {b : Bool} {A B : Prop} (h1 : b = true → A) (h2 : b = false → B) : if b = true then A else B := by
  cases b with
  | true => exact iteT (h1 rfl)
  | false => exact iteF (h2 rfl)
theorem iteNB {b : Bool} {A B : Prop} (h1 : b = false → A) (h2 : b = true → B) : if (!b) = true then A else B := by
  cases b with
  | true => exact iteF (h2 rfl)
  | false => exact iteT (h1 rfl)
theorem vint {a b : Int} (h : V.int a = V.int b) : a = b := V.int.inj h
theorem dvint {a b : Int} : decide (V.int a = V.int b) = decide (a = b) := by
  by_cases h : a = b
  · subst h
    rw [decide_eq_true rfl, decide_eq_true rfl]
  · rw [decide_eq_false h, decide_eq_false fun q => h (vint q)]
theorem TrAt.at0 {K : PySem.W.Frag} {H : Hp} {a : Addr} {t : Sq28.Tree} (h : TrAt H a t) : ∃ p l, SqT K H a [.ref p, .ref l] ∧ SqL K H p ((pars t).map V.int) ∧ SqL K H l ((labs t).map V.int) := by
  obtain ⟨p, l, e, h1, h2⟩ := h
  exact ⟨p, l, .inl (.inl e), .inl (.inl h1), .inl (.inl h2)⟩

/-! ## the promises -/
def spBare : Sp := fun vs H Q _ => vs = [] ∧ ∀ H' p, Same H H' → TrAt (Fresh H H') p [] → Q (.ref p) H'
def spExist : Sp := fun vs H Q _ => ∃ (a : Addr) (u : Nat) (t : Sq28.Tree), vs = [.ref a, vN u] ∧ TrAt H a t ∧ u < 64 ∧ Q (.bl (Sq28.there t u)) H
def spWithin : Sp := fun vs H Q _ => ∃ (a : Addr) (u x : Nat) (t : Sq28.Tree), vs = [.ref a, vN u, vN x] ∧ TrAt H a t ∧ WF t ∧ Sq28.there t u = true ∧ 2 ≤ x ∧ Q (.bl ((Sq28.above t u).contains x)) H
structure MvOk (d : Deed) : Prop where
  lo : 2 ≤ d.move.thing
  hi : d.move.thing < 64
  under : d.move.under < 64
def spOutcome : Sp := fun vs H Q _ => ∃ (a : Addr) (v : V) (d : Deed) (t : Sq28.Tree), vs = [.ref a, v] ∧ TrAt H a t ∧ WF t ∧ MvAt H v d ∧ MvOk d ∧ Q (vN (Sq28.outcome t d.move)) H
def spWithNum : Sp := fun vs H Q _ => ∃ (a : Addr) (i : Nat) (z : Int) (xs : List Int), vs = [.ref a, vN i, .int z] ∧ H a = some (.lst (xs.map V.int)) ∧ i < xs.length ∧ xs.length ≤ 1000 ∧
  ∀ H' p, Same H H' → H' p = some (.lst ((xs.set i z).map V.int)) → Q (.ref p) H'
def spApplied : Sp := fun vs H Q _ => ∃ (a : Addr) (v : V) (d : Deed) (t : Sq28.Tree), vs = [.ref a, v] ∧ TrAt H a t ∧ WF t ∧ MvAt H v d ∧ MvOk d ∧
  ∀ H' p, Same H H' → TrAt H' p (Sq28.done t d.move) → Q (.ref p) H'
def doneAll (t : Sq28.Tree) (ds : List Deed) : Sq28.Tree := (ds.map fun d => d.move).foldl Sq28.done t
def spAll : Sp := fun vs H Q _ => ∃ (a l : Addr) (ds : List Deed) (t : Sq28.Tree), vs = [.ref a, .ref l] ∧ TrAt H a t ∧ WF t ∧ LgAt H l ds ∧ (∀ d ∈ ds, MvOk d) ∧
  ∀ H' p, Same H H' → TrAt H' p (doneAll t ds) → Q (.ref p) H'
theorem doneAll_take {t : Sq28.Tree} {ds : List Deed} {i : Nat} {d : Deed} (h : ds[i]? = some d) : doneAll t (ds.take (i + 1)) = Sq28.done (doneAll t (ds.take i)) d.move := by
  unfold doneAll
  rw [take_more h, List.map_append, List.foldl_append]
  rfl
theorem doneAll_wf {t : Sq28.Tree} (w : WF t) {ds : List Deed} (h : ∀ d ∈ ds, MvOk d) : WF (doneAll t ds) := by
  refine WF.dones (fun e he => ?_) w
  obtain ⟨d, hd, rfl⟩ := List.mem_map.mp he
  exact ⟨(h d hd).lo, (h d hd).hi⟩

section
variable {P : Program} {w : World} {K : PySem.W.Frag} {mg : Str → Option Value} {base : Heap}

theorem sc_bare : FnScope [] [] (defScope (top 20)) := ⟨rfl, rfl, rfl, by decide +kernel, rfl, by decide +kernel, by decide +kernel⟩
theorem ok_bare (D : DefAt K mg "bare_tree" (top 20) []) (gNP : IntG mg "NO_PARENT" (-1)) (gNN : IntG mg "NO_NODE" (-2)) (gM : IntG mg "MANY_NODES" 64) : CalD P w K mg base 1 "bare_tree" [] spBare := by
  refine D.ok sc_bare (fun vs H Q E h => ?_) (fun f cdv A outer s H vs Q E hr h => ?_)
  · obtain ⟨rfl, _⟩ := h
    rfl
  · obtain ⟨rfl, k⟩ := h
    refine ⟨_, pss_one (ps_ret (pe_tup (pa_cons (pe_op op_cat (pe_lst (pa_cons (qg gNP) (pa_cons (qg gNP) pa_nil))) (pe_op op_rep (pe_lst (pa_cons (qg gNN) pa_nil)) (pe_op op_sub (qg gM) pe_int)))
      (pa_cons (pe_op op_rep (pe_lst (pa_cons pe_int pa_nil)) (qg gM)) pa_nil)))), ?_⟩
    refine ⟨(by show 2 ≤ sizeLine; decide), fun p np => ⟨(by show 1 ≤ sizeLine; decide), fun q nq => ?_⟩⟩
    refine ⟨_, _, rfl, rfl, q, _, _, rfl, rfl, upd_same, (by decide), (by decide), (by decide +kernel), fun r nr => ?_⟩
    refine ⟨p, r, _, _, rfl, rfl, same_new nr _ _ (same_new nq _ _ upd_same), upd_same, (by decide +kernel), fun a na => ?_⟩
    refine ⟨(by show 1 ≤ sizeLine; decide), fun b nb => ?_⟩
    refine ⟨b, _, _, rfl, rfl, upd_same, (by decide), (by decide), (by decide +kernel), fun c nc => ?_⟩
    refine ⟨(by show 2 ≤ sizeLine; decide), fun d nd => ?_⟩
    refine k _ d (((same_new np).trans (same_new nq)).trans (((same_new nr).trans (same_new na)).trans (((same_new nb).trans (same_new nc)).trans (same_new nd)))) ?_
    have fa := (((same_new np).trans (same_new nq)).trans (same_new nr)).free na
    have fc := ((((same_new np).trans (same_new nq)).trans (same_new nr)).trans ((same_new na).trans (same_new nb))).free nc
    have fd := ((((same_new np).trans (same_new nq)).trans (same_new nr)).trans ((same_new na).trans ((same_new nb).trans (same_new nc)))).free nd
    refine ⟨a, c, fresh_at fd upd_same, fresh_at fa ?_, fresh_at fc ?_⟩
    · refine same_new nd _ _ (same_new nc _ _ (same_new nb _ _ ?_))
      exact upd_same
    · refine same_new nd _ _ ?_
      exact upd_same

theorem sc_exist : FnScope ["tree", "node"] ["tree", "node"] (defScope (top 21)) := ⟨rfl, rfl, rfl, by decide +kernel, rfl, by decide +kernel, by decide +kernel⟩
theorem ok_exist (D : DefAt K mg "does_exist" (top 21) ["tree", "node"]) (gNN : IntG mg "NO_NODE" (-2)) : CalD P w K mg base 1 "does_exist" ["tree", "node"] spExist := by
  refine D.ok sc_exist (fun vs H Q E h => ?_) (fun f cdv A outer s H vs Q E hr h => ?_)
  · obtain ⟨a, u, t, rfl, _⟩ := h
    rfl
  · obtain ⟨a, u, t, rfl, ht, hu, k⟩ := h
    obtain ⟨p, l, h0, h1, h2⟩ := ht.at0 (K := K)
    refine ⟨_, pss_one (ps_ret (pe_cmpR op_ne (pe_ix ix_list (pe_ix ix_tup (pv 0) pe_int (fun _ _ => rfl)) (pv 1) (fun _ _ => rfl)) (qg gNN) (nomark _))), ?_⟩
    refine ⟨_, rfl, a, _, _, _, rfl, rfl, h0, at_of (j := 0) rfl rfl, _, rfl, p, _, _, _, rfl, rfl, h1, at_map rfl (pars_at t hu), rfl, ?_⟩
    have e : (!decide (V.int (parAt t u) = V.int (-2))) = Sq28.there t u := by
      rw [dvint]
      by_cases h : parAt t u = -2
      · rw [decide_eq_true h]
        cases q : Sq28.there t u with
        | false => rfl
        | true => exact absurd h (parAt_there.mpr q)
      · rw [decide_eq_false h, parAt_there.mp h]
        rfl
    rw [← e] at k
    exact k

theorem sc_within : FnScope ["tree", "node", "other", "here", "turn"] ["tree", "node", "other"] (defScope (top 22)) := ⟨rfl, rfl, rfl, by decide +kernel, rfl, by decide +kernel, by decide +kernel⟩
theorem ok_within (D : DefAt K mg "is_within" (top 22) ["tree", "node", "other"]) (gM : IntG mg "MANY_NODES" 64) (gNP : IntG mg "NO_PARENT" (-1)) (gr : mg "range" = none) : CalD P w K mg base 1 "is_within" ["tree", "node", "other"] spWithin := by
  refine D.ok sc_within (fun vs H Q E h => ?_) (fun f cdv A outer s H vs Q E hr h => ?_)
  · obtain ⟨a, u, x, t, rfl, _⟩ := h
    rfl
  · obtain ⟨a, u, x, t, rfl, ht, wt, hu, hx, k⟩ := h
    obtain ⟨p, l, h0, h1, h2⟩ := ht.at0 (K := K)
    refine ⟨_, pss_cons (ps_set (i := 3) sc_within.nd rfl (Or.inl rfl) (pv 1))
      (pss_cons (ps_for PassesOwn.never rfl (pi_range1 rfl gr (pa_cons (qg gM) pa_nil)) (pg_name (i := 4) sc_within.nd rfl (Or.inl rfl))
        (pss_cons (ps_if (pt_cmpR op_eq (pv 3) (pv 2) (nomark _)) (pss_one (ps_ret pe_bl)) pss_nil)
        (pss_cons (ps_if (pt_cmpR op_eq (pv 3) (qg gNP) (nomark _)) (pss_one (ps_ret pe_bl)) pss_nil)
        (pss_one (ps_set (i := 3) sc_within.nd rfl (Or.inl rfl) (pe_ix ix_list (pe_ix ix_tup (pv 0) pe_int (fun _ _ => rfl)) (pv 3) (fun _ _ => rfl)))))))
      (pss_one (ps_ret pe_bl))), ?_⟩
    refine ⟨_, rfl, 64, rfl, by decide, by decide, for_range (lo := 0) (n := 64) (fun i σ H' => H' = H ∧ ∃ (o : Option V) (z : Int), σ = [some (.ref a), some (vN u), some (vN x), some (.int z), o] ∧ climb t (x : Int) (64 - i) z = (Sq28.above t u).contains x ∧ (z = -1 ∨ ∃ y : Nat, z = (y : Int) ∧ Sq28.there t y = true)) ?_ ?_ ?_⟩
    · exact ⟨rfl, none, (u : Int), rfl, wt.climb_above hu hx, .inr ⟨u, rfl, hu⟩⟩
    · rintro i σ H' hi ⟨rfl, o, z, rfl, hc, hz⟩
      have e1 : 64 - i = (64 - (i + 1)) + 1 := by omega
      rw [e1] at hc
      unfold climb at hc
      refine ⟨_, rfl, _, rfl, rfl, _, rfl, iteD (fun h => ?_) (fun h => ?_)⟩
      · have h := vint h
        rw [if_pos h] at hc
        rw [← hc] at k
        exact k
      · have h : ¬ z = (x : Int) := fun q => h (by rw [q])
        rw [if_neg h] at hc
        refine ⟨_, rfl, rfl, _, rfl, iteD (fun h2 => ?_) (fun h2 => ?_)⟩
        · have h2 := vint h2
          rw [if_pos h2] at hc
          rw [← hc] at k
          exact k
        · have h2 : ¬ z = -1 := fun q => h2 (by rw [q])
          rw [if_neg h2] at hc
          rcases hz with hz | ⟨y, rfl, hy⟩
          · exact absurd hz h2
          · rw [Int.toNat_natCast] at hc
            refine ⟨_, rfl, a, _, _, _, rfl, rfl, h0, at_of (j := 0) rfl rfl, _, rfl, p, _, _, _, rfl, rfl, h1, at_map rfl (pars_at t (wt.lt64 hy)), ?_⟩
            refine ⟨rfl, some (.int (0 + (i : Int))), parAt t y, rfl, hc, ?_⟩
            rcases there_iff.mp hy with h3 | ⟨q, h3⟩
            · exact .inl (parAt_top h3)
            · have h4 := get_some h3
              by_cases h5 : y < 2
              · exact .inl (parAt_top h5)
              · exact .inr ⟨q.under, parAt_some (by omega) h3, wt.up q h4.1⟩
    · rintro σ H' ⟨rfl, o, z, rfl, hc, hz⟩
      have hc : false = (Sq28.above t u).contains x := hc
      rw [← hc] at k
      exact k

theorem sc_outcome : FnScope ["tree", "move"] ["tree", "move"] (defScope (top 23)) := ⟨rfl, rfl, rfl, by decide +kernel, rfl, by decide +kernel, by decide +kernel⟩
theorem ok_outcome (D : DefAt K mg "outcome_of" (top 23) ["tree", "move"]) (c1 : CalD P w K mg base 1 "does_exist" ["tree", "node"] spExist) (c2 : CalD P w K mg base 1 "is_within" ["tree", "node", "other"] spWithin)
    (gP : IntG mg "PARENT" 4) (gN : IntG mg "NODE" 3) (g2 : IntG mg "NO_SUCH_PARENT" 2) (g3 : IntG mg "IN_ITSELF" 3) (g1 : IntG mg "DONE" 1) : CalD P w K mg base 2 "outcome_of" ["tree", "move"] spOutcome := by
  refine D.ok sc_outcome (fun vs H Q E h => ?_) (fun f cdv A outer s H vs Q E hr h => ?_)
  · obtain ⟨a, v, d, t, rfl, _⟩ := h
    rfl
  · obtain ⟨a, v, d, t, rfl, ht, wt, ⟨m, rfl, hm⟩, od, k⟩ := h
    have sm : SqT K H m (mvV d) := .inl (.inl hm)
    refine ⟨_, pss_cons (ps_if (pt_not (pt_val (qc c1 hr (by decide) rfl (pa_cons (pv 0) (pa_cons (pe_ix ix_tup (pv 1) (qg gP) (fun _ _ => rfl)) pa_nil))))) (pss_one (ps_ret (qg g2))) pss_nil)
      (pss_cons (ps_if (pt_val (qc c2 hr (by decide) rfl (pa_cons (pv 0) (pa_cons (pe_ix ix_tup (pv 1) (qg gP) (fun _ _ => rfl)) (pa_cons (pe_ix ix_tup (pv 1) (qg gN) (fun _ _ => rfl)) pa_nil))))) (pss_one (ps_ret (qg g3))) pss_nil)
      (pss_one (ps_ret (qg g1)))), ?_⟩
    refine ⟨_, rfl, _, rfl, m, _, _, vN d.move.under, rfl, rfl, sm, at_of (j := 4) rfl rfl, ?_⟩
    refine ⟨a, d.move.under, t, rfl, ht, od.under, _, rfl, iteNB (fun h => ?_) (fun h => ?_)⟩
    · have e : Sq28.outcome t d.move = 2 := by
        unfold Sq28.outcome
        rw [if_pos h]
      rw [e] at k
      exact k
    · refine ⟨_, rfl, _, rfl, m, _, _, vN d.move.under, rfl, rfl, sm, at_of (j := 4) rfl rfl, _, rfl, m, _, _, vN d.move.thing, rfl, rfl, sm, at_of (j := 3) rfl rfl, ?_⟩
      refine ⟨a, d.move.under, d.move.thing, t, rfl, ht, wt, h, od.lo, _, rfl, iteB (fun h2 => ?_) (fun h2 => ?_)⟩
      · have e : Sq28.outcome t d.move = 3 := by
          unfold Sq28.outcome
          rw [if_neg (by rw [h]; decide), if_pos h2]
        rw [e] at k
        exact k
      · have e : Sq28.outcome t d.move = 1 := by
          unfold Sq28.outcome
          rw [if_neg (by rw [h]; decide), if_neg (by rw [h2]; decide)]
        rw [e] at k
        exact k

theorem sc_withnum : FnScope ["numbers", "place", "number"] ["numbers", "place", "number"] (defScope (top 24)) := ⟨rfl, rfl, rfl, by decide +kernel, rfl, by decide +kernel, by decide +kernel⟩
theorem ok_withnum (D : DefAt K mg "with_number" (top 24) ["numbers", "place", "number"]) : CalD P w K mg base 1 "with_number" ["numbers", "place", "number"] spWithNum := by
  refine D.ok sc_withnum (fun vs H Q E h => ?_) (fun f cdv A outer s H vs Q E hr h => ?_)
  · obtain ⟨l, a, ds, x, rfl, _⟩ := h
    rfl
  · obtain ⟨a, i, z, c, rfl, ha, hi, hlen, k⟩ := h
    refine ⟨_, pss_one (ps_ret (pe_op op_cat (pe_op op_cat (pe_slice sl_list (pv 0) po_none (po_some (pv 1))) (pe_lst (pa_cons (pv 2) pa_nil)))
      (pe_slice sl_list (pv 0) (po_some (pe_op op_add (pv 1) pe_int)) po_none))), ?_⟩
    refine ⟨_, rfl, _, rfl, _, rfl, a, _, rfl, .inl (.inl ha), fun p np => ?_⟩
    have a1 := same_new (o := .lst (cutV (c.map V.int) none (some (i : Int)))) np _ _ ha
    refine ⟨_, rfl, (by show 1 ≤ sizeLine; decide), fun q nq => ?_⟩
    refine ⟨p, q, _, _, rfl, rfl, same_new nq _ _ upd_same, upd_same, ?_, fun r nr => ?_⟩
    · rw [cut_to, List.length_take]
      exact len_le (by simp; omega)
    · have a2 := same_new (o := .lst (cutV (c.map V.int) none (some (i : Int)) ++ [V.int z])) nr _ _ (same_new (o := .lst [V.int z]) nq _ _ a1)
      refine ⟨_, rfl, _, rfl, _, _, rfl, rfl, _, rfl, a, _, rfl, .inl (.inl a2), fun t nt => ?_⟩
      have e : ((i : Int) + 1) = ((i + 1 : Nat) : Int) := by omega
      refine ⟨r, t, _, _, rfl, rfl, same_new nt _ _ upd_same, upd_same, ?_, fun u nu => ?_⟩
      · rw [cut_to, e, cut_from]
        simp
        exact len_le (by omega)
      · refine k _ u ((((same_new np).trans (same_new nq)).trans (same_new nr)).trans ((same_new nt).trans (same_new nu))) ?_
        rw [upd_same]
        rw [cut_to, e, cut_from, ← set_split _ _ _ hi, List.map_append, List.map_append, List.map_take, List.map_drop]
        rfl

theorem sc_applied : FnScope ["tree", "move", "parents", "labels"] ["tree", "move"] (defScope (top 25)) := ⟨rfl, rfl, rfl, by decide +kernel, rfl, by decide +kernel, by decide +kernel⟩
theorem ok_applied (D : DefAt K mg "applied" (top 25) ["tree", "move"]) (c1 : CalD P w K mg base 2 "outcome_of" ["tree", "move"] spOutcome) (c2 : CalD P w K mg base 1 "with_number" ["numbers", "place", "number"] spWithNum)
    (gP : IntG mg "PARENT" 4) (gN : IntG mg "NODE" 3) (gL : IntG mg "LABEL" 5) (g1 : IntG mg "DONE" 1) : CalD P w K mg base 3 "applied" ["tree", "move"] spApplied := by
  refine D.ok sc_applied (fun vs H Q E h => ?_) (fun f cdv A outer s H vs Q E hr h => ?_)
  · obtain ⟨a, v, d, t, rfl, _⟩ := h
    rfl
  · obtain ⟨a, v, d, t, rfl, ht, wt, hv, od, k⟩ := h
    obtain ⟨m, rfl, hm⟩ := id hv
    have sm : SqT K H m (mvV d) := .inl (.inl hm)
    obtain ⟨p, l, h0, h1, h2⟩ := id ht
    have nd := sc_applied.nd
    refine ⟨_, pss_cons (ps_if (pt_cmpR op_ne (qc c1 hr (by decide) rfl (pa_cons (pv 0) (pa_cons (pv 1) pa_nil))) (qg g1) (nomark _)) (pss_one (ps_ret (pv 0))) pss_nil)
      (pss_cons (ps_asg (pv 0) (pg_tup rfl (pgs_cons (pg_name (i := 2) nd rfl (Or.inl rfl)) (pgs_cons (pg_name (i := 3) nd rfl (Or.inl rfl)) pgs_nil))))
      (pss_one (ps_ret (pe_tup (pa_cons (qc c2 hr (by decide) rfl (pa_cons (pv 2) (pa_cons (pe_ix ix_tup (pv 1) (qg gN) (fun _ _ => rfl)) (pa_cons (pe_ix ix_tup (pv 1) (qg gP) (fun _ _ => rfl)) pa_nil))))
        (pa_cons (qc c2 hr (by decide) rfl (pa_cons (pv 3) (pa_cons (pe_ix ix_tup (pv 1) (qg gN) (fun _ _ => rfl)) (pa_cons (pe_ix ix_tup (pv 1) (qg gL) (fun _ _ => rfl)) pa_nil)))) pa_nil)))))), ?_⟩
    refine ⟨_, rfl, _, rfl, a, _, d, t, rfl, ht, wt, hv, od, rfl, _, rfl, ?_⟩
    by_cases h : Sq28.outcome t d.move = 1
    · have e : (!decide (vN (Sq28.outcome t d.move) = V.int 1)) = false := by
        rw [h]
        rfl
      rw [e]
      refine iteF ?_
      have O := outcome_one h
      have ed : Sq28.done t d.move = Sq28.put ⟨d.move.thing, d.move.under, d.move.label⟩ t := by
        unfold Sq28.done
        rw [if_pos h]
      rw [ed] at k
      refine ⟨_, rfl, a, _, rfl, .inl (.inl h0), rfl, _, _, rfl, _, _, rfl, rfl, ?_⟩
      refine ⟨_, rfl, _, rfl, m, _, _, vN d.move.thing, rfl, rfl, sm, at_of (j := 3) rfl rfl, _, rfl, m, _, _, vN d.move.under, rfl, rfl, sm, at_of (j := 4) rfl rfl, ?_⟩
      refine ⟨p, d.move.thing, _, pars t, rfl, h1, by rw [pars_len]; exact od.hi, by rw [pars_len]; decide, fun H1 q s1 hq => ?_⟩
      have sm1 : SqT K H1 m (mvV d) := .inl (.inl (s1 _ _ hm))
      refine ⟨_, rfl, _, rfl, m, _, _, vN d.move.thing, rfl, rfl, sm1, at_of (j := 3) rfl rfl, _, rfl, m, _, _, vN d.move.label, rfl, rfl, sm1, at_of (j := 5) rfl rfl, ?_⟩
      refine ⟨l, d.move.thing, _, labs t, rfl, s1 _ _ h2, by rw [labs_len]; exact od.hi, by rw [labs_len]; decide, fun H2 r s2 hr2 => ?_⟩
      refine ⟨(by show 2 ≤ sizeLine; decide), fun u nu => k _ u ((s1.trans s2).trans (same_new nu)) ?_⟩
      refine ⟨q, r, upd_same, ?_, ?_⟩
      · rw [pars_put wt (p := ⟨d.move.thing, d.move.under, d.move.label⟩) od.lo od.hi]
        exact same_new nu _ _ (s2 _ _ hq)
      · rw [labs_put wt (p := ⟨d.move.thing, d.move.under, d.move.label⟩) od.hi]
        exact same_new nu _ _ hr2
    · have e : (!decide (vN (Sq28.outcome t d.move) = V.int 1)) = true := by
        show (!decide (V.int (Sq28.outcome t d.move : Int) = V.int 1)) = true
        rw [dvint, decide_eq_false (by omega)]
        rfl
      rw [e]
      refine iteT ⟨_, rfl, k H a (Same.refl H) ?_⟩
      have ed : Sq28.done t d.move = t := by
        unfold Sq28.done
        rw [if_neg h]
      rw [ed]
      exact ht

theorem sc_all : FnScope ["tree", "moves", "found", "move"] ["tree", "moves"] (defScope (top 26)) := ⟨rfl, rfl, rfl, by decide +kernel, rfl, by decide +kernel, by decide +kernel⟩
theorem ok_all (D : DefAt K mg "all_applied" (top 26) ["tree", "moves"]) (c1 : CalD P w K mg base 3 "applied" ["tree", "move"] spApplied) : CalD P w K mg base 4 "all_applied" ["tree", "moves"] spAll := by
  refine D.ok sc_all (fun vs H Q E h => ?_) (fun f cdv A outer s H vs Q E hr h => ?_)
  · obtain ⟨a, l, ds, t, rfl, _⟩ := h
    rfl
  · obtain ⟨a, l, ds, t, rfl, ht, wt, ⟨ms, hl, hms⟩, od, k⟩ := h
    refine ⟨_, pss_cons (ps_set (i := 2) sc_all.nd rfl (Or.inl rfl) (pv 0))
      (pss_cons (ps_for PassesOwn.never rfl (pi_list (pv 1)) (pg_name (i := 3) sc_all.nd rfl (Or.inl rfl))
        (pss_one (ps_set (i := 2) sc_all.nd rfl (Or.inl rfl) (qc c1 hr (by decide) rfl (pa_cons (pv 2) (pa_cons (pv 3) pa_nil))))))
      (pss_one (ps_ret (pv 2)))), ?_⟩
    refine ⟨_, rfl, _, rfl, l, rfl, ⟨_, .inl (.inl hl)⟩, for_list (K := K) (a := l) (xs := ms) (fun i σ H' => Same H H' ∧ ∃ (b : Addr) (o : Option V), σ = [some (.ref a), some (.ref l), some (.ref b), o] ∧ TrAt H' b (doneAll t (ds.take i))) ⟨Same.refl H, a, none, rfl, ht⟩ (fun i σ H' _ h => .inl (.inl (h.1 _ _ hl))) ?_ ?_⟩
    · rintro i x σ H' hi ⟨s1, b, o, rfl, hb⟩
      obtain ⟨d, hdi, hx⟩ := pr_got hms hi
      have md := List.mem_of_getElem? hdi
      refine ⟨_, rfl, _, rfl, b, x, d, _, rfl, hb, doneAll_wf wt (fun e he => od e (List.mem_of_mem_take he)), hx.keep (Keep.of s1), od d md, fun H2 q s2 hq => ?_⟩
      refine ⟨s1.trans s2, q, _, rfl, ?_⟩
      rw [doneAll_take hdi]
      exact hq
    · rintro σ H' ⟨s1, b, o, rfl, hb⟩
      rw [hms.length, List.take_length] at hb
      exact ⟨_, rfl, k H' b s1 hb⟩
end
end Bt
namespace Bt
open PySem PySem.Spec PyProof.Rows L2
open Sq33 (Deed Desk House Letter Counts at_ most enter)

/-- a pair (node, depth) -/
def RwAt (H : Hp) (v : V) (e : Nat × Nat) : Prop := ∃ a, v = .ref a ∧ H a = some (.tup [vN e.1, vN e.2])
abbrev RwsAt (H : Hp) (vs : List V) (es : List (Nat × Nat)) : Prop := PySem.Paired (RwAt H) vs es
/-- tuples stay -/
def KeepT (H H' : Hp) : Prop := ∀ b xs, H b = some (.tup xs) → H' b = some (.tup xs)
theorem KeepT.of {H H' : Hp} (s : Same H H') : KeepT H H' := fun b xs h => s b _ h
theorem KeepT.trans {H H1 H2 : Hp} (a : KeepT H H1) (b : KeepT H1 H2) : KeepT H H2 := fun c xs h => b c xs (a c xs h)
theorem KeepT.mutl {H : Hp} {p : Addr} {xs : List V} {o : HO} (h : H p = some (.lst xs)) : KeepT H (upd H p o) := fun b ys e => by
  rw [upd_ne (ne_of e h (by intro z; cases z))]
  exact e
theorem RwsAt.keep {H H' : Hp} (k : KeepT H H') {vs : List V} {es : List (Nat × Nat)} (h : RwsAt H vs es) : RwsAt H' vs es := Paired.mapP h fun v e q => by
  obtain ⟨a, e1, e2⟩ := q
  exact ⟨a, e1, k _ _ e2⟩

def rw_ (e : Sq28.Place × Nat) : Nat × Nat := (e.1.thing, e.2)
/-! ## the promises -/
def spKids : Sp := fun vs H Q _ => ∃ (a : Addr) (x : Nat) (t : Sq28.Tree), vs = [.ref a, vN x] ∧ TrAt H a t ∧ WF t ∧
  ∀ H' p, Same H H' → H' p = some (.lst (((Sq28.under t x).map (·.thing)).map vN)) → Q (.ref p) H'
def spDepth : Sp := fun vs H Q _ => ∃ (l : Addr) (d : Nat) (ns : List Nat), vs = [.ref l, vN d] ∧ H l = some (.lst (ns.map vN)) ∧ ns.length ≤ 1000 ∧
  ∀ H' p ws, Same H H' → H p = none → H' p = some (.lst ws) → RwsAt H' ws (ns.map fun n => (n, d)).reverse → Q (.ref p) H'
def spBelow : Sp := fun vs H Q _ => ∃ (a : Addr) (x : Nat) (t : Sq28.Tree), vs = [.ref a, vN x] ∧ TrAt H a t ∧ WF t ∧ (Sq28.all t x).length ≤ 400000 ∧
  ∀ H' p ws, Same H H' → H' p = some (.lst ws) → RwsAt H' ws ((Sq28.all t x).map rw_) → Q (.ref p) H'
def outl (t : Sq28.Tree) (x : Nat) : List Nat := (Sq28.all t x).length :: (Sq28.all t x).flatMap fun e => [e.1.thing, e.2, e.1.label]
def spOutline : Sp := fun vs H Q _ => ∃ (a : Addr) (x : Nat) (t : Sq28.Tree), vs = [.ref a, vN x] ∧ TrAt H a t ∧ WF t ∧ (Sq28.all t x).length ≤ 400000 ∧
  ∀ H' p, Same H H' → H' p = some (.lst ((outl t x).map vN)) → Q (.ref p) H'

theorem under_len {t : Sq28.Tree} (w : WF t) (x : Nat) : (Sq28.under t x).length ≤ 62 := Nat.le_trans (List.length_filter_le _ _) w.len

section
variable {P : Program} {w : World} {K : PySem.W.Frag} {mg : Str → Option Value} {base : Heap}

theorem sc_kids : FnScope ["tree", "node", "one"] ["tree", "node"] (defScope (top 28)) := ⟨rfl, rfl, rfl, by decide +kernel, rfl, by decide +kernel, by decide +kernel⟩
theorem ok_kids (D : DefAt K mg "children_of" (top 28) ["tree", "node"]) (gM : IntG mg "MANY_NODES" 64) (gr : mg "range" = none) : CalD P w K mg base 1 "children_of" ["tree", "node"] spKids := by
  refine D.ok sc_kids (fun vs H Q E h => ?_) (fun f cdv A outer s H vs Q E hr h => ?_)
  · obtain ⟨a, u, t, rfl, _⟩ := h
    rfl
  · obtain ⟨a, x, t, rfl, ht, wt, k⟩ := h
    obtain ⟨q, l, h0, h1, h2⟩ := id ht
    refine ⟨_, pss_one (ps_ret (pe_lc (own := [("one", 2)]) (g := gName 2) (tt := tTest (tOp rEq (tOp (rIxL K) (tOp (rIxT K) (tVar 0) (tC (.int 0))) (tVar 2)) (tVar 1))) rfl sc_kids.nd (pi_range1 rfl gr (pa_cons (qg gM) pa_nil)) (blkOk_by (own := [("one", 2)]) (N := ["tree", "node", "one"]) (sc := defScope (top 28)) (by decide +kernel))
      (fun _ _ _ _ _ => pg_name (i := 2) sc_kids.nd rfl (Or.inl rfl)) (fun _ _ _ _ _ => pts_one (pt_cmpR op_eq (pe_ix ix_list (pe_ix ix_tup (pv 0) pe_int (fun _ _ => rfl)) (pv 2) (fun _ _ => rfl)) (pv 1) (nomark _))) (fun _ _ _ _ _ => pv 2))), ?_⟩
    refine ⟨64, rfl, by decide, by decide, fun p np => ?_⟩
    refine lc_range (lo := 0) (n := 64) (fun i H' => Same H H' ∧ H' p = some (.lst (((List.range i).filter fun j => decide (parAt t j = (x : Int))).map vN))) ⟨same_new np, upd_same⟩ ?_ ?_
    · rintro i H' hi ⟨s1, hp⟩
      have e0 : (0 : Int) + (i : Int) = (i : Int) := Int.zero_add _
      refine ⟨rfl, _, rfl, a, _, _, .ref q, rfl, rfl, .inl (.inl (s1 _ _ h0)), at_of (j := 0) rfl rfl, _, rfl, q, _, _, _, rfl, rfl, .inl (.inl (s1 _ _ h1)), at_map e0 (pars_at t hi), _, rfl, rfl, _, rfl, ?_⟩
      have e1 : decide (V.int (parAt t i) = vN x) = decide (parAt t i = (x : Int)) := dvint
      rw [List.range_succ, List.filter_append, List.filter_cons, List.filter_nil, e1]
      refine iteD (fun h => ?_) (fun h => ?_)
      · refine ⟨_, rfl, _, hp, ?_, same_mut s1 np, ?_⟩
        · rw [List.length_map]
          refine len_small ?_
          have := List.length_filter_le (fun j => decide (parAt t j = (x : Int))) (List.range i)
          rw [List.length_range] at this
          omega
        · rw [upd_same, if_pos (decide_eq_true h), List.map_append, e0]
          rfl
      · rw [if_neg (by rw [decide_eq_false h]; exact Bool.false_ne_true), List.append_nil]
        exact ⟨s1, hp⟩
    · rintro H' ⟨s1, hp⟩
      rw [kids_eq wt] at hp
      exact k H' p s1 hp

theorem sc_depth : FnScope ["nodes", "depth", "node"] ["nodes", "depth"] (defScope (top 29)) := ⟨rfl, rfl, rfl, by decide +kernel, rfl, by decide +kernel, by decide +kernel⟩
theorem ok_depth (D : DefAt K mg "with_depth" (top 29) ["nodes", "depth"]) : CalD P w K mg base 1 "with_depth" ["nodes", "depth"] spDepth := by
  refine D.ok sc_depth (fun vs H Q E h => ?_) (fun f cdv A outer s H vs Q E hr h => ?_)
  · obtain ⟨a, u, t, rfl, _⟩ := h
    rfl
  · obtain ⟨l, d, ns, rfl, hl, hlen, k⟩ := h
    refine ⟨_, pss_one (ps_ret (pe_lc (own := [("node", 2)]) (g := gName 2) rfl sc_depth.nd (pi_list (pe_revL (pv 0))) (blkOk_by (own := [("node", 2)]) (N := ["nodes", "depth", "node"]) (sc := defScope (top 29)) (by decide +kernel))
      (fun _ _ _ _ _ => pg_name (i := 2) sc_depth.nd rfl (Or.inl rfl)) (fun _ _ _ _ _ => pts_nil) (fun _ _ _ _ _ => pe_tup (pa_cons (pv 2) (pa_cons (pv 1) pa_nil))))), ?_⟩
    refine ⟨_, rfl, l, _, rfl, .inl (.inl hl), fun q nq => ⟨q, rfl, ⟨_, .inl (.inl upd_same)⟩, fun p np => ?_⟩⟩
    have s0 := same_new (o := .lst (ns.map vN).reverse) nq
    have npH : H p = none := s0.free np
    refine lc_list (K := K) (a := q) (xs := (ns.map vN).reverse) (fun i H' => Same (upd H q (.lst (ns.map vN).reverse)) H' ∧ ∃ ws, H' p = some (.lst ws) ∧ RwsAt H' ws ((ns.map fun n => (n, d)).reverse.take i)) ⟨same_new np, [], upd_same, .nil⟩ (fun i H' _ h => .inl (.inl (h.1 _ _ upd_same))) ?_ ?_
    · rintro i v H' hi ⟨s1, ws, hp, hw⟩
      rw [← List.map_reverse] at hi
      obtain ⟨n, hn, rfl⟩ := map_get hi
      have en : (ns.map fun n => (n, d)).reverse[i]? = some (n, d) := by
        rw [← List.map_reverse, List.getElem?_map, hn]
        rfl
      refine ⟨rfl, _, rfl, _, rfl, (by show 2 ≤ sizeLine; decide), fun a na => ⟨ws, ?_, ?_, ?_, ws ++ [.ref a], upd_same, ?_⟩⟩
      · rw [upd_ne (ne_of_none hp na)]
        exact hp
      · rw [hw.length, List.length_take]
        exact len_small (by simp; omega)
      · exact same_mut (s1.trans (same_new na)) np
      · have k1 : KeepT H' (upd H' a (.tup [vN n, vN d])) := KeepT.of (same_new na)
        have hp2 : (upd H' a (.tup [vN n, vN d])) p = some (.lst ws) := by
          rw [upd_ne (ne_of_none hp na)]
          exact hp
        rw [take_more en]
        refine RwsAt.keep (KeepT.mutl hp2) (pr_last (hw.keep k1) ⟨a, rfl, upd_same⟩)
    · rintro H' ⟨s1, ws, hp, hw⟩
      have e : ((ns.map vN).reverse).length = ((ns.map fun n => (n, d)).reverse).length := by simp
      rw [e, List.take_length] at hw
      exact k H' p ws (s0.trans s1) npH hp hw

theorem rows_dp {K : PySem.W.Frag} {H : Hp} : ∀ {vs : List V} {es : List (Nat × Nat)}, RwsAt H vs es → DpAll K H vs (es.map fun e => .tuple [dN e.1, dN e.2])
  | _, _, .nil => .nil
  | _, _, .cons ⟨a, e, h⟩ t => by
    subst e
    exact .cons (.tup (.inl (.inl h)) (.cons (.int _) (.cons (.int _) .nil))) (rows_dp t)
theorem rows_lay : ∀ es : List (Nat × Nat), PyData.canLayAll0 (es.map fun e => .tuple [dN e.1, dN e.2]) = true ∧ PyData.depthAll (es.map fun e => .tuple [dN e.1, dN e.2]) ≤ 1
  | [] => ⟨rfl, Nat.zero_le _⟩
  | e :: es => by
    have h := rows_lay es
    refine ⟨?_, ?_⟩
    · show (true && PyData.canLayAll0 _) = true
      rw [h.1]
      rfl
    · show max 1 (PyData.depthAll _) ≤ 1
      have := h.2
      omega
theorem rows_shaped (es : List (Nat × Nat)) : SeqAt.shaped (.list (es.map fun e => .tuple [dN e.1, dN e.2])) = true := by
  have h := rows_lay es
  unfold SeqAt.shaped
  have h1 : PyData.canLay0 (.list (es.map fun e => .tuple [dN e.1, dN e.2])) = true := h.1
  have h2 : PyData.depth (.list (es.map fun e => .tuple [dN e.1, dN e.2])) ≤ 64 := by
    show PyData.depthAll _ + 1 ≤ 64
    have := h.2
    omega
  rw [h1, decide_eq_true h2]
  rfl
theorem rows_eqv (es : List (Nat × Nat)) : PyData.eqv (.list (es.map fun e => .tuple [dN e.1, dN e.2])) (.list []) = es.isEmpty := by
  cases es <;> rfl

theorem sc_below : FnScope ["tree", "top", "found", "waiting", "node", "depth"] ["tree", "top"] (defScope (top 30)) := ⟨rfl, rfl, rfl, by decide +kernel, rfl, by decide +kernel, by decide +kernel⟩
theorem ok_below (D : DefAt K mg "nodes_below" (top 30) ["tree", "top"]) (c1 : CalD P w K mg base 1 "children_of" ["tree", "node"] spKids) (c2 : CalD P w K mg base 1 "with_depth" ["nodes", "depth"] spDepth) : CalD P w K mg base 2 "nodes_below" ["tree", "top"] spBelow := by
  refine D.ok sc_below (fun vs H Q E h => ?_) (fun f cdv A outer s H vs Q E hr h => ?_)
  · obtain ⟨a, u, t, rfl, _⟩ := h
    rfl
  · obtain ⟨a, x, t, rfl, ht, wt, hlen, k⟩ := h
    have nd := sc_below.nd
    refine ⟨_, pss_cons (ps_set (i := 2) nd rfl (Or.inl rfl) (pe_lst pa_nil))
      (pss_cons (ps_set (i := 3) nd rfl (Or.inl rfl) (qc c2 hr (by decide) rfl (pa_cons (qc c1 hr (by decide) rfl (pa_cons (pv 0) (pa_cons (pv 1) pa_nil))) (pa_cons pe_int pa_nil))))
      (pss_cons (ps_while PassesOwn.never (pt_cmpR (op_neD hr.units) (pv 3) (pe_lst pa_nil) (nomark _))
        (pss_cons (ps_asg (pe_bm0 PySem.F.plainAttrs_list PySem.F.slot_list_pop PySem.F.type_list_pop mt_pop (pv 3)) (pg_tup rfl (pgs_cons (pg_name (i := 4) nd rfl (Or.inl rfl)) (pgs_cons (pg_name (i := 5) nd rfl (Or.inl rfl)) pgs_nil))))
        (pss_cons (ps_expr (pe_bm PySem.F.plainAttrs_list PySem.F.slot_list_append PySem.F.type_list_append mt_append (pv 2) (pa_cons (pe_tup (pa_cons (pv 4) (pa_cons (pv 5) pa_nil))) pa_nil)))
        (pss_one (ps_expr (pe_bm PySem.F.plainAttrs_list PySem.F.slot_list_extend PySem.F.type_list_extend mt_extend (pv 3) (pa_cons (qc c2 hr (by decide) rfl (pa_cons (qc c1 hr (by decide) rfl (pa_cons (pv 0) (pa_cons (pv 4) pa_nil))) (pa_cons (pe_op op_add (pv 5) pe_int) pa_nil))) pa_nil)))))))
      (pss_one (ps_ret (pv 2))))), ?_⟩
    refine ⟨Nat.zero_le _, fun pf nf => ?_⟩
    have s1 := same_new (o := .lst []) nf
    refine ⟨_, rfl, _, rfl, a, x, t, rfl, ht.keep (Keep.of s1), wt, fun H2 q s2 hq => ?_⟩
    refine ⟨q, 1, _, rfl, hq, by rw [List.length_map]; have := under_len wt x; omega, fun H3 pw ws s3 npw hpw hws => ?_⟩
    have hws : RwsAt H3 ws ((kids t 1 x).map rw_).reverse := by
      have e : ((Sq28.under t x).map (·.thing)).map (fun n => (n, 1)) = (kids t 1 x).map rw_ := by
        unfold kids
        rw [List.map_map, List.map_map]
        rfl
      rw [e] at hws
      exact hws
    have sH3 : Same H H3 := (s1.trans s2).trans s3
    have npwH : H pw = none := (s1.trans s2).free npw
    have hpf : H3 pf = some (.lst []) := (s2.trans s3) _ _ upd_same
    have nfw : pf ≠ pw := fun e => by
      have h9 := s2 _ _ (show (upd H pf (.lst [])) pf = some (.lst []) from upd_same)
      rw [e, npw] at h9
      cases h9
    refine ⟨fun m σ H' => ∃ (fs us : List V) (dn st : List (Sq28.Place × Nat)) (o1 o2 : Option V), σ = [some (.ref a), some (vN x), some (.ref pf), some (.ref pw), o1, o2] ∧ Same H H' ∧ H' pf = some (.lst fs) ∧ H' pw = some (.lst us) ∧ RwsAt H' fs (dn.map rw_) ∧ RwsAt H' us (st.map rw_).reverse ∧ dn ++ todo t st = Sq28.all t x ∧ (todo t st).length = m,
      ⟨_, [], ws, [], kids t 1 x, none, none, rfl, sH3, hpf, hpw, .nil, hws, by rw [wt.todo_start]; rfl, rfl⟩, ?_⟩
    rintro m σ H' ⟨fs, us, dn, st, o1, o2, rfl, sH, hf, hu, hfs, hus, hall, hm⟩
    refine ⟨_, rfl, Nat.zero_le _, fun pe npe => ?_⟩
    have kE := KeepT.of (same_new (o := .lst []) npe)
    have hu' : upd H' pe (.lst []) pw = some (.lst us) := by
      rw [upd_ne (ne_of_none hu npe)]
      exact hu
    refine ⟨_, _, .lst (.inl (.inl hu')) (rows_dp (hus.keep kE)), .lst (.inl (.inl upd_same)) .nil, rows_shaped _, rfl, _, rfl, ?_⟩
    rw [rows_eqv]
    have sE : Same H (upd H' pe (.lst [])) := sH.trans (same_new npe)
    cases st with
    | nil =>
      have hf' : upd H' pe (.lst []) pf = some (.lst fs) := by
        rw [upd_ne (ne_of_none hf npe)]
        exact hf
      rw [todo_nil, List.append_nil] at hall
      refine iteF ⟨_, rfl, k _ pf fs sE hf' ?_⟩
      rw [← hall]
      exact hfs.keep kE
    | cons e st =>
      have er : (((e :: st).map rw_).reverse).isEmpty = false := by simp
      rw [er]
      refine iteT ?_
      have hf' : upd H' pe (.lst []) pf = some (.lst fs) := by
        rw [upd_ne (ne_of_none hf npe)]
        exact hf
      -- the last of the waiting
      rw [List.map_cons, List.reverse_cons] at hus
      have hus' := hus.keep kE
      have hl : us.length = st.length + 1 := by
        rw [hus.length]
        simp
      obtain ⟨y, hy⟩ : ∃ y, us[us.length - 1]? = some y := ⟨_, List.getElem?_eq_getElem (by omega)⟩
      obtain ⟨e', he', ⟨ea, rfl, hea⟩⟩ := pr_got hus' hy
      have ee : e' = rw_ e := by
        rw [hl, Nat.add_sub_cancel, List.getElem?_append_right (by simp), ] at he'
        simp at he'
        exact he'.symm
      subst ee
      have hdrop : RwsAt (upd H' pe (.lst [])) us.dropLast (st.map rw_).reverse := by
        have := pr_take (us.length - 1) hus'
        rw [← List.dropLast_eq_take] at this
        rw [hl, Nat.add_sub_cancel, List.take_append_of_le_length (by simp), List.take_of_length_le (by simp)] at this
        exact this
      refine ⟨fun σ' H4 => ∃ m', m' < m ∧ ∃ (fs us : List V) (dn st : List (Sq28.Place × Nat)) (o1 o2 : Option V), σ' = [some (.ref a), some (vN x), some (.ref pf), some (.ref pw), o1, o2] ∧ Same H H4 ∧ H4 pf = some (.lst fs) ∧ H4 pw = some (.lst us) ∧ RwsAt H4 fs (dn.map rw_) ∧ RwsAt H4 us (st.map rw_).reverse ∧ dn ++ todo t st = Sq28.all t x ∧ (todo t st).length = m', fun σ' H4 h => h, ?_⟩
      -- node, depth = waiting.pop()
      have hea : upd H' pe (.lst []) ea = some (.tup [vN e.1.thing, vN e.2]) := hea
      generalize upd H' pe (.lst []) = H5 at *
      refine ⟨_, rfl, .inl ⟨rfl, _, .inl (.inl hu')⟩, pw, us, _, rfl, rfl, hu', hy, ?_⟩
      have k5 : KeepT H5 (upd H5 pw (.lst us.dropLast)) := KeepT.mutl hu'
      have s5 : Same H (upd H5 pw (.lst us.dropLast)) := same_mut sE npwH
      refine ⟨ea, _, rfl, .inl (.inl (k5 _ _ hea)), rfl, _, _, rfl, _, _, rfl, rfl, ?_⟩
      -- found.append((node, depth))
      have hf5 : upd H5 pw (.lst us.dropLast) pf = some (.lst fs) := by
        rw [upd_ne nfw]
        exact hf'
      have hw5 : upd H5 pw (.lst us.dropLast) pw = some (.lst us.dropLast) := upd_same
      have hd5 := hdrop.keep k5
      have hfs5 := (hfs.keep kE).keep k5
      generalize upd H5 pw (.lst us.dropLast) = H6 at *
      refine ⟨_, rfl, .inl ⟨rfl, _, .inl (.inl hf5)⟩, _, rfl, _, rfl, (by show 2 ≤ sizeLine; decide), fun pn npn => ?_⟩
      have k6 : KeepT H6 (upd H6 pn (.tup [vN e.1.thing, vN e.2])) := KeepT.of (same_new npn)
      have hf6 : upd H6 pn (.tup [vN e.1.thing, vN e.2]) pf = some (.lst fs) := by
        rw [upd_ne (ne_of_none hf5 npn)]
        exact hf5
      have hw6 : upd H6 pn (.tup [vN e.1.thing, vN e.2]) pw = some (.lst us.dropLast) := by
        rw [upd_ne (ne_of_none hw5 npn)]
        exact hw5
      have hn6 : upd H6 pn (.tup [vN e.1.thing, vN e.2]) pn = some (.tup [vN e.1.thing, vN e.2]) := upd_same
      have s6 : Same H (upd H6 pn (.tup [vN e.1.thing, vN e.2])) := s5.trans (same_new npn)
      have hd6 := hd5.keep k6
      have hfs6 := hfs5.keep k6
      generalize upd H6 pn (.tup [vN e.1.thing, vN e.2]) = H7 at *
      have hfl : fs.length ≤ 400000 := by
        rw [hfs.length, List.length_map]
        have := congrArg List.length hall
        rw [List.length_append] at this
        omega
      refine ⟨pf, fs, _, rfl, rfl, hf6, len_small (by omega), ?_⟩
      have k7 : KeepT H7 (upd H7 pf (.lst (fs ++ [.ref pn]))) := KeepT.mutl hf6
      have s7 : Same H (upd H7 pf (.lst (fs ++ [.ref pn]))) := same_mut s6 nf
      have hf7 : upd H7 pf (.lst (fs ++ [.ref pn])) pf = some (.lst (fs ++ [.ref pn])) := upd_same
      have hw7 : upd H7 pf (.lst (fs ++ [.ref pn])) pw = some (.lst us.dropLast) := by
        rw [upd_ne (fun q => nfw q.symm)]
        exact hw6
      have hd7 := hd6.keep k7
      have hfs7 : RwsAt (upd H7 pf (.lst (fs ++ [.ref pn]))) (fs ++ [.ref pn]) ((dn ++ [e]).map rw_) := by
        rw [List.map_append]
        exact pr_last (hfs6.keep k7) ⟨pn, rfl, k7 _ _ hn6⟩
      generalize upd H7 pf (.lst (fs ++ [.ref pn])) = H8 at *
      -- waiting.extend(with_depth(children_of(tree, node), depth + 1))
      refine ⟨_, rfl, .inl ⟨rfl, _, .inl (.inl hw7)⟩, _, rfl, _, rfl, a, e.1.thing, t, rfl, ht.keep (Keep.of s7), wt, fun H9 q2 s9 hq2 => ?_⟩
      refine ⟨_, rfl, _, _, rfl, rfl, q2, e.2 + 1, _, rfl, hq2, by rw [List.length_map]; have := under_len wt e.1.thing; omega, fun H10 pk zs s10 npk hpk hzs => ?_⟩
      have hzs : RwsAt H10 zs ((kids t (e.2 + 1) e.1.thing).map rw_).reverse := by
        have e3 : ((Sq28.under t e.1.thing).map (·.thing)).map (fun n => (n, e.2 + 1)) = (kids t (e.2 + 1) e.1.thing).map rw_ := by
          unfold kids
          rw [List.map_map, List.map_map]
          rfl
        rw [e3] at hzs
        exact hzs
      have s910 := s9.trans s10
      have hw10 := s910 _ _ hw7
      have hall2 : (dn ++ [e]) ++ todo t (kids t (e.2 + 1) e.1.thing ++ st) = Sq28.all t x := by
        rw [wt.todo_step] at hall
        rw [← hall]
        simp
      have hlen2 : (todo t (kids t (e.2 + 1) e.1.thing ++ st)).length + 1 = m := by
        rw [wt.todo_step] at hm
        rw [← hm]
        rfl
      refine ⟨pw, pk, _, _, rfl, rfl, hw10, hpk, ?_, ?_⟩
      · rw [hd7.length, hzs.length]
        have h1 := todo_len t (kids t (e.2 + 1) e.1.thing ++ st)
        have h2 := congrArg List.length hall2
        rw [List.length_append] at h2
        rw [List.length_append] at h1
        simp
        exact len_le (by omega)
      · have kF : KeepT H10 (upd H10 pw (.lst (us.dropLast ++ zs))) := KeepT.mutl hw10
        refine ⟨_, ?_, _, us.dropLast ++ zs, dn ++ [e], kids t (e.2 + 1) e.1.thing ++ st, _, _, rfl, same_mut (s7.trans s910) npwH, ?_, upd_same, (hfs7.keep (KeepT.of s910)).keep kF, ?_, hall2, rfl⟩
        · omega
        · rw [upd_ne nfw]
          exact s910 _ _ hf7
        · rw [List.map_append, List.reverse_append]
          exact pr_app ((hd7.keep (KeepT.of s910)).keep kF) (hzs.keep kF)

theorem sc_outline : FnScope ["tree", "top", "rows", "found", "node", "depth"] ["tree", "top"] (defScope (top 31)) := ⟨rfl, rfl, rfl, by decide +kernel, rfl, by decide +kernel, by decide +kernel⟩
theorem lst_in {t : Sq28.Tree} : ∀ (f d x : Nat) (e : Sq28.Place × Nat), e ∈ Sq28.listed t f d x → e.1 ∈ t
  | 0, d, x, e, h => by cases h
  | f + 1, d, x, e, h => by
    obtain ⟨p, hp, he⟩ := List.mem_flatMap.mp (show e ∈ (Sq28.under t x).flatMap fun p => (p, d) :: Sq28.listed t f (d + 1) p.thing from h)
    rcases List.mem_cons.mp he with e1 | he
    · rw [e1]
      exact (List.mem_filter.mp hp).1
    · exact lst_in f (d + 1) p.thing e he
theorem ok_outline (D : DefAt K mg "outline_of" (top 31) ["tree", "top"]) (gl : mg "len" = none) (c1 : CalD P w K mg base 2 "nodes_below" ["tree", "top"] spBelow) : CalD P w K mg base 3 "outline_of" ["tree", "top"] spOutline := by
  refine D.ok sc_outline (fun vs H Q E h => ?_) (fun f cdv A outer s H vs Q E hr h => ?_)
  · obtain ⟨a, u, t, rfl, _⟩ := h
    rfl
  · obtain ⟨a, x, t, rfl, ht, wt, hlen, k⟩ := h
    have nd := sc_outline.nd
    refine ⟨_, pss_cons (ps_set (i := 2) nd rfl (Or.inl rfl) (qc c1 hr (by decide) rfl (pa_cons (pv 0) (pa_cons (pv 1) pa_nil))))
      (pss_cons (ps_set (i := 3) nd rfl (Or.inl rfl) (pe_lst (pa_cons (pe_callB call_len_seq rfl gl PySem.boot_len (pa_cons (pv 2) pa_nil)) pa_nil)))
      (pss_cons (ps_for PassesOwn.never rfl (pi_list (pv 2)) (pg_tup rfl (pgs_cons (pg_name (i := 4) nd rfl (Or.inl rfl)) (pgs_cons (pg_name (i := 5) nd rfl (Or.inl rfl)) pgs_nil)))
        (pss_one (ps_expr (pe_bm PySem.F.plainAttrs_list PySem.F.slot_list_extend PySem.F.type_list_extend mt_extend (pv 3)
          (pa_cons (pe_lst (pa_cons (pv 4) (pa_cons (pv 5) (pa_cons (pe_ix ix_list (pe_ix ix_tup (pv 0) pe_int (fun _ _ => rfl)) (pv 4) (fun _ _ => rfl)) pa_nil)))) pa_nil)))))
      (pss_one (ps_ret (pv 3))))), ?_⟩
    refine ⟨_, rfl, _, rfl, a, x, t, rfl, ht, wt, hlen, fun H1 pr ws s1 hpr hws => ?_⟩
    refine ⟨_, rfl, pr, ws, rfl, .inl (.inl (.inl hpr)), (by show 1 ≤ sizeLine; decide), fun pf nf => ?_⟩
    have hwl : ws.length = (Sq28.all t x).length := by rw [hws.length, List.length_map]
    have nfH : H pf = none := s1.free nf
    refine ⟨_, rfl, pr, rfl, ⟨_, .inl (.inl (same_new nf _ _ hpr))⟩, for_list (K := K) (a := pr) (xs := ws) (fun i σ H' => ∃ (o1 o2 : Option V), σ = [some (.ref a), some (vN x), some (.ref pr), some (.ref pf), o1, o2] ∧ Same H1 H' ∧ H' pf = some (.lst (((Sq28.all t x).length :: ((Sq28.all t x).take i).flatMap fun e => [e.1.thing, e.2, e.1.label]).map vN)))
      ⟨none, none, rfl, same_new nf, by rw [upd_same, hwl]; rfl⟩ (fun i σ H' _ h => by obtain ⟨_, _, _, h, _⟩ := h; exact .inl (.inl (h _ _ hpr))) ?_ ?_⟩
    · rintro i v σ H' hi ⟨o1, o2, rfl, s2, hf⟩
      obtain ⟨e', he', ⟨ea, rfl, hea⟩⟩ := pr_got hws hi
      obtain ⟨e, he, rfl⟩ := map_get he'
      have hea : H1 ea = some (.tup [vN e.1.thing, vN e.2]) := hea
      have hm : e.1 ∈ t := lst_in _ _ _ e (List.mem_of_getElem? he)
      obtain ⟨q, l, h0, h1, h2⟩ := ht.keep (Keep.of (s1.trans s2))
      refine ⟨ea, _, rfl, .inl (.inl (s2 _ _ hea)), rfl, _, _, rfl, _, _, rfl, rfl, ?_⟩
      have el : labAt t e.1.thing = (e.1.label : Int) := by
        unfold labAt
        rw [get_mem wt.sorted hm]
      refine ⟨_, rfl, .inl ⟨rfl, _, .inl (.inl hf)⟩, _, rfl, _, rfl, _, rfl, a, _, _, .ref l, rfl, rfl, .inl (.inl h0), at_of (j := 1) rfl rfl, _, rfl, l, _, _, _, rfl, rfl, .inl (.inl h2), at_map rfl (labs_at t (wt.hi _ hm)), (by show 3 ≤ sizeLine; decide), fun pn npn => ?_⟩
      have hf2 := same_new (o := .lst [vN e.1.thing, vN e.2, .int (labAt t e.1.thing)]) npn _ _ hf
      refine ⟨pf, pn, _, _, rfl, rfl, hf2, upd_same, ?_, _, _, rfl, same_mut (s2.trans (same_new npn)) nf, ?_⟩
      · have hi2 : ((Sq28.all t x).take i).length ≤ 400000 := by rw [List.length_take]; omega
        have : ∀ l : List (Sq28.Place × Nat), (l.flatMap fun e => [e.1.thing, e.2, e.1.label]).length = 3 * l.length := by
          intro l
          induction l with
          | nil => rfl
          | cons e l ih =>
            rw [List.flatMap_cons, List.length_append, ih]
            simp
            omega
        rw [List.length_map, List.length_cons, this]
        exact len_le (by show _ + 1 + 3 ≤ _; omega)
      · rw [upd_same, take_more he, List.flatMap_append, el]
        simp [List.map_append]
    · rintro σ H' ⟨o1, o2, rfl, s2, hf⟩
      rw [hwl, List.take_length] at hf
      exact ⟨_, rfl, k H' pf (s1.trans s2) hf⟩
end
end Bt
namespace Bt
open PySem PySem.Spec PyProof.Rows L2
open Sq33 (Deed Desk House Letter Counts at_ most enter)

/-! ## attributes -/
theorem lk_at {k : Str} {v : V} {r : List (Str × V)} : List.lookup k ((k, v) :: r) = some v := by
  have e : (k == k) = true := beq_self_eq_true k
  simp only [List.lookup, e]
theorem lk_by {k g : Str} {v : V} {r : List (Str × V)} (h : (k == g) = false) : List.lookup k ((g, v) :: r) = List.lookup k r := by
  simp only [List.lookup, h]
theorem pt_at {f : Str} {v x : V} {r : List (Str × V)} : putF f v ((f, x) :: r) = (f, v) :: r := if_pos rfl
theorem pt_by {f g : Str} {v x : V} {r : List (Str × V)} (h : ¬ g = f) : putF f v ((g, x) :: r) = (g, x) :: putF f v r := if_neg h
def siteG (k clk gone : Nat) (c l s f r : Addr) : List (Str × V) := [("number", vN k), ("clock", vN clk), ("counts", .ref c), ("log", .ref l), ("snapshot", .ref s), ("own_confirmed", .ref f), ("own_reported", .ref r), ("many_compacted", vN gone)]
section
variable {k clk gone n : Nat} {c l s f r : Addr}
theorem sg_number : (siteG k clk gone c l s f r).lookup ("number" : Str) = some (vN k) := lk_at
theorem sg_clock : (siteG k clk gone c l s f r).lookup ("clock" : Str) = some (vN clk) := (lk_by (by decide +kernel)).trans lk_at
theorem sg_counts : (siteG k clk gone c l s f r).lookup ("counts" : Str) = some (V.ref c) := (lk_by (by decide +kernel)).trans ((lk_by (by decide +kernel)).trans lk_at)
theorem sg_log : (siteG k clk gone c l s f r).lookup ("log" : Str) = some (V.ref l) := (lk_by (by decide +kernel)).trans ((lk_by (by decide +kernel)).trans ((lk_by (by decide +kernel)).trans lk_at))
theorem sg_snapshot : (siteG k clk gone c l s f r).lookup ("snapshot" : Str) = some (V.ref s) := (lk_by (by decide +kernel)).trans ((lk_by (by decide +kernel)).trans ((lk_by (by decide +kernel)).trans ((lk_by (by decide +kernel)).trans lk_at)))
theorem sg_own_confirmed : (siteG k clk gone c l s f r).lookup ("own_confirmed" : Str) = some (V.ref f) := (lk_by (by decide +kernel)).trans ((lk_by (by decide +kernel)).trans ((lk_by (by decide +kernel)).trans ((lk_by (by decide +kernel)).trans ((lk_by (by decide +kernel)).trans lk_at))))
theorem sg_own_reported : (siteG k clk gone c l s f r).lookup ("own_reported" : Str) = some (V.ref r) := (lk_by (by decide +kernel)).trans ((lk_by (by decide +kernel)).trans ((lk_by (by decide +kernel)).trans ((lk_by (by decide +kernel)).trans ((lk_by (by decide +kernel)).trans ((lk_by (by decide +kernel)).trans lk_at)))))
theorem sg_many_compacted : (siteG k clk gone c l s f r).lookup ("many_compacted" : Str) = some (vN gone) := (lk_by (by decide +kernel)).trans ((lk_by (by decide +kernel)).trans ((lk_by (by decide +kernel)).trans ((lk_by (by decide +kernel)).trans ((lk_by (by decide +kernel)).trans ((lk_by (by decide +kernel)).trans ((lk_by (by decide +kernel)).trans lk_at))))))
theorem sp_clock : putF "clock" (vN n) (siteG k clk gone c l s f r) = siteG k n gone c l s f r := (pt_by (by decide +kernel)).trans (congrArg _ (pt_at))
theorem sp_counts {n : Addr} : putF "counts" (V.ref n) (siteG k clk gone c l s f r) = siteG k clk gone n l s f r := (pt_by (by decide +kernel)).trans (congrArg _ ((pt_by (by decide +kernel)).trans (congrArg _ (pt_at))))
theorem sp_log {n : Addr} : putF "log" (V.ref n) (siteG k clk gone c l s f r) = siteG k clk gone c n s f r := (pt_by (by decide +kernel)).trans (congrArg _ ((pt_by (by decide +kernel)).trans (congrArg _ ((pt_by (by decide +kernel)).trans (congrArg _ (pt_at))))))
theorem sp_snapshot {n : Addr} : putF "snapshot" (V.ref n) (siteG k clk gone c l s f r) = siteG k clk gone c l n f r := (pt_by (by decide +kernel)).trans (congrArg _ ((pt_by (by decide +kernel)).trans (congrArg _ ((pt_by (by decide +kernel)).trans (congrArg _ ((pt_by (by decide +kernel)).trans (congrArg _ (pt_at))))))))
theorem sp_own_confirmed {n : Addr} : putF "own_confirmed" (V.ref n) (siteG k clk gone c l s f r) = siteG k clk gone c l s n r := (pt_by (by decide +kernel)).trans (congrArg _ ((pt_by (by decide +kernel)).trans (congrArg _ ((pt_by (by decide +kernel)).trans (congrArg _ ((pt_by (by decide +kernel)).trans (congrArg _ ((pt_by (by decide +kernel)).trans (congrArg _ (pt_at))))))))))
theorem sp_own_reported {n : Addr} : putF "own_reported" (V.ref n) (siteG k clk gone c l s f r) = siteG k clk gone c l s f n := (pt_by (by decide +kernel)).trans (congrArg _ ((pt_by (by decide +kernel)).trans (congrArg _ ((pt_by (by decide +kernel)).trans (congrArg _ ((pt_by (by decide +kernel)).trans (congrArg _ ((pt_by (by decide +kernel)).trans (congrArg _ ((pt_by (by decide +kernel)).trans (congrArg _ (pt_at))))))))))))
theorem sp_many_compacted : putF "many_compacted" (vN n) (siteG k clk gone c l s f r) = siteG k clk n c l s f r := (pt_by (by decide +kernel)).trans (congrArg _ ((pt_by (by decide +kernel)).trans (congrArg _ ((pt_by (by decide +kernel)).trans (congrArg _ ((pt_by (by decide +kernel)).trans (congrArg _ ((pt_by (by decide +kernel)).trans (congrArg _ ((pt_by (by decide +kernel)).trans (congrArg _ ((pt_by (by decide +kernel)).trans (congrArg _ (pt_at))))))))))))))
theorem sg_none {m : Str} (h : (["number", "clock", "counts", "log", "snapshot", "own_confirmed", "own_reported", "many_compacted"] : List Str).contains m = false) : (siteG k clk gone c l s f r).lookup m = none := by
  simp only [List.contains_cons, List.contains_nil, Bool.or_false, Bool.or_eq_false_iff] at h
  obtain ⟨h1, h2, h3, h4, h5, h6, h7, h8⟩ := h
  exact (lk_by h1).trans ((lk_by h2).trans ((lk_by h3).trans ((lk_by h4).trans ((lk_by h5).trans ((lk_by h6).trans ((lk_by h7).trans ((lk_by h8).trans rfl)))))))
end

structure SiteT (K : PySem.W.Frag) (C : Addr) : Prop where
  cl : Cls K C
  n_number : NoAttr K C "number"
  n_clock : NoAttr K C "clock"
  n_counts : NoAttr K C "counts"
  n_log : NoAttr K C "log"
  n_snapshot : NoAttr K C "snapshot"
  n_own_confirmed : NoAttr K C "own_confirmed"
  n_own_reported : NoAttr K C "own_reported"
  n_many_compacted : NoAttr K C "many_compacted"
structure SiteD (H : Hp) (x : Desk) (c l s f r : Addr) : Prop where
  has : CtAt H c x.has
  log : LgAt H l x.kept
  snap : TrAt H s x.base
  conf : CfAt H f x.sure
  rep : CtAt H r x.heard
theorem SiteD.keep {H H' : Hp} (k : Keep H H') {x : Desk} {c l s f r : Addr} (h : SiteD H x c l s f r) : SiteD H' x c l s f r :=
  ⟨h.has.keep k, h.log.keep k, h.snap.keep k, h.conf.keep k, h.rep.keep k⟩
/-- a replica stands at a -/
def SiteAt (C : Addr) (H : Hp) (a : Addr) (k : Nat) (x : Desk) : Prop := ∃ dx c l s f r, H a = some (.ins C dx (siteG k x.clock x.gone c l s f r)) ∧ SiteD H x c l s f r
/-- all but what stands at a is as it was -/
def But (a : Addr) (H H' : Hp) : Prop := ∀ b o, H b = some o → b ≠ a → H' b = some o
theorem But.refl (a : Addr) (H : Hp) : But a H H := fun _ _ h _ => h
theorem But.of {a : Addr} {H H' : Hp} (s : Same H H') : But a H H' := fun b o h _ => s b o h
theorem But.trans {a : Addr} {H H1 H2 : Hp} (x : But a H H1) (y : But a H1 H2) : But a H H2 := fun b o h n => y b o (x b o h n) n
theorem But.upd {a : Addr} {H H1 : Hp} {o : HO} (x : But a H H1) : But a H (L2.upd H1 a o) := fun b u h n => by
  rw [upd_ne n]
  exact x b u h n
theorem But.keep {a C dx : Addr} {fs : List (Str × V)} {H H' : Hp} (h : H a = some (.ins C dx fs)) (x : But a H H') : Keep H H' := Keep.but h x
section
variable {K : PySem.W.Frag} {C a dx : Addr} {H : Hp} {σ : L2.St} {i k clk gone : Nat} {c l s f r : Addr} {Q : VK}
theorem rd_number (T : SiteT K C) (hA : H a = some (.ins C dx (siteG k clk gone c l s f r))) (h : σ[i]? = some (some (.ref a))) (q : Q (vN k) H) : tFld K (tVar i) "number" σ H Q := ⟨_, h, a, C, dx, _, _, rfl, hA, T.cl, T.n_number, sg_number, q⟩
theorem rd_clock (T : SiteT K C) (hA : H a = some (.ins C dx (siteG k clk gone c l s f r))) (h : σ[i]? = some (some (.ref a))) (q : Q (vN clk) H) : tFld K (tVar i) "clock" σ H Q := ⟨_, h, a, C, dx, _, _, rfl, hA, T.cl, T.n_clock, sg_clock, q⟩
theorem rd_counts (T : SiteT K C) (hA : H a = some (.ins C dx (siteG k clk gone c l s f r))) (h : σ[i]? = some (some (.ref a))) (q : Q (V.ref c) H) : tFld K (tVar i) "counts" σ H Q := ⟨_, h, a, C, dx, _, _, rfl, hA, T.cl, T.n_counts, sg_counts, q⟩
theorem rd_log (T : SiteT K C) (hA : H a = some (.ins C dx (siteG k clk gone c l s f r))) (h : σ[i]? = some (some (.ref a))) (q : Q (V.ref l) H) : tFld K (tVar i) "log" σ H Q := ⟨_, h, a, C, dx, _, _, rfl, hA, T.cl, T.n_log, sg_log, q⟩
theorem rd_snapshot (T : SiteT K C) (hA : H a = some (.ins C dx (siteG k clk gone c l s f r))) (h : σ[i]? = some (some (.ref a))) (q : Q (V.ref s) H) : tFld K (tVar i) "snapshot" σ H Q := ⟨_, h, a, C, dx, _, _, rfl, hA, T.cl, T.n_snapshot, sg_snapshot, q⟩
theorem rd_own_confirmed (T : SiteT K C) (hA : H a = some (.ins C dx (siteG k clk gone c l s f r))) (h : σ[i]? = some (some (.ref a))) (q : Q (V.ref f) H) : tFld K (tVar i) "own_confirmed" σ H Q := ⟨_, h, a, C, dx, _, _, rfl, hA, T.cl, T.n_own_confirmed, sg_own_confirmed, q⟩
theorem rd_own_reported (T : SiteT K C) (hA : H a = some (.ins C dx (siteG k clk gone c l s f r))) (h : σ[i]? = some (some (.ref a))) (q : Q (V.ref r) H) : tFld K (tVar i) "own_reported" σ H Q := ⟨_, h, a, C, dx, _, _, rfl, hA, T.cl, T.n_own_reported, sg_own_reported, q⟩
theorem rd_many_compacted (T : SiteT K C) (hA : H a = some (.ins C dx (siteG k clk gone c l s f r))) (h : σ[i]? = some (some (.ref a))) (q : Q (vN gone) H) : tFld K (tVar i) "many_compacted" σ H Q := ⟨_, h, a, C, dx, _, _, rfl, hA, T.cl, T.n_many_compacted, sg_many_compacted, q⟩
end
end Bt
namespace Bt
open PySem PySem.Spec PyProof.Rows L2
open Sq33 (Deed Desk House Letter Counts at_ most enter)

/-! ## what a replica says of itself -/
def sureOf (k : Nat) (x : Desk) (j : Nat) : Counts := if k = j then x.has else (x.sure[j]?).getD []
def clockOf (k : Nat) (x : Desk) (j : Nat) : Nat := if j = k then x.clock else at_ x.heard j
def settledOf (n k : Nat) (x : Desk) : Nat := (List.range n).foldl (fun (m : Nat) j => if j = k then m else min m (at_ x.heard j)) x.clock
def allHaveOf (n k : Nat) (x : Desk) (d : Deed) : Bool := (List.range n).all fun j => decide (d.n ≤ at_ (sureOf k x j) d.desk)
def ripeOf (n k : Nat) (x : Desk) : List Deed := x.kept.takeWhile fun d => allHaveOf n k x d && decide (d.move.stamp.count ≤ settledOf n k x)
theorem ripe_is (h : House) (k : Nat) : h.ripe k = ripeOf h.hands k (h.desk k) := rfl
theorem settled_is (h : House) (k : Nat) : h.settled k = settledOf h.hands k (h.desk k) := rfl
def lacksOf (k j : Nat) (x : Desk) : List Deed := x.kept.filter fun d => !decide (d.n ≤ at_ (sureOf k x j) d.desk)
theorem lacks_is (h : House) (k j : Nat) : h.lacks k j = lacksOf k j (h.desk k) := rfl
structure DkOk (n k : Nat) (x : Desk) : Prop where
  hi : n ≤ 6
  me : k < n
  has : x.has.length = n
  sureL : x.sure.length = n
  sureE : ∀ c ∈ x.sure, c.length = n
  heard : x.heard.length = n
  base : WF x.base
  kept : x.kept.Pairwise Bef
  mv : ∀ d ∈ x.kept, MvOk d
  desk : ∀ d ∈ x.kept, d.desk < n
  len : x.kept.length ≤ 80
theorem HouseOk.dk {h : House} (w : HouseOk h) {k : Nat} (hk : k < h.hands) : DkOk h.hands k (h.desk k) := by
  have D := w.at hk
  have M : ∀ d ∈ (h.desk k).kept, DeedOk h.hands d := fun d hd => w.deed d (D.keptAll d hd)
  exact ⟨w.hi, hk, D.has, D.sureL, D.sureE, D.heard, D.base, D.kept, fun d hd => ⟨(M d hd).lo, (M d hd).hi, (M d hd).under⟩, fun d hd => (M d hd).desk, w.short D.kept D.keptAll⟩
theorem DkOk.sureLen {n k : Nat} {x : Desk} (D : DkOk n k x) {j : Nat} (hj : j < n) : (sureOf k x j).length = n := by
  unfold sureOf
  split
  · exact D.has
  · have h : j < x.sure.length := by rw [D.sureL]; exact hj
    rw [List.getElem?_eq_getElem h]
    exact D.sureE _ (List.getElem_mem h)
theorem fold_min (k : Nat) (g : Nat → Nat) : ∀ (l : List Nat) (a : Nat), (l.foldl (fun (m : Nat) j => if j = k then m else min m (g j)) a) ≤ a ∧ (∀ j ∈ l, j ≠ k → (l.foldl (fun (m : Nat) j => if j = k then m else min m (g j)) a) ≤ g j) ∧
    ((l.foldl (fun (m : Nat) j => if j = k then m else min m (g j)) a) = a ∨ ∃ j ∈ l, j ≠ k ∧ (l.foldl (fun (m : Nat) j => if j = k then m else min m (g j)) a) = g j)
  | [], a => ⟨Nat.le_refl _, by simp, .inl rfl⟩
  | b :: l, a => by
    rw [List.foldl_cons]
    by_cases e : b = k
    · rw [if_pos e]
      obtain ⟨h1, h2, h3⟩ := fold_min k g l a
      refine ⟨h1, fun j hj hn => ?_, ?_⟩
      · rcases List.mem_cons.mp hj with q | q
        · exact absurd (q.trans e) hn
        · exact h2 j q hn
      · rcases h3 with h3 | ⟨j, hj, hn, h3⟩
        · exact .inl h3
        · exact .inr ⟨j, List.mem_cons_of_mem _ hj, hn, h3⟩
    · rw [if_neg e]
      obtain ⟨h1, h2, h3⟩ := fold_min k g l (min a (g b))
      refine ⟨by omega, fun j hj hn => ?_, ?_⟩
      · rcases List.mem_cons.mp hj with q | q
        · subst q
          omega
        · exact h2 j q hn
      · rcases h3 with h3 | ⟨j, hj, hn, h3⟩
        · by_cases c : a ≤ g b
          · exact .inl (by omega)
          · exact .inr ⟨b, List.mem_cons_self, e, by omega⟩
        · exact .inr ⟨j, List.mem_cons_of_mem _ hj, hn, h3⟩
theorem settled_min {n k : Nat} {x : Desk} (hk : k < n) {m : Int} (h1 : m ∈ (List.range n).map fun j => ((clockOf k x j : Nat) : Int)) (h2 : ∀ y ∈ (List.range n).map (fun j => ((clockOf k x j : Nat) : Int)), m ≤ y) : m = ((settledOf n k x : Nat) : Int) := by
  obtain ⟨f1, f2, f3⟩ := fold_min k (at_ x.heard) (List.range n) x.clock
  have le : ∀ j, j < n → settledOf n k x ≤ clockOf k x j := fun j hj => by
    unfold clockOf
    split
    · exact f1
    · rename_i e
      exact f2 j (List.mem_range.mpr hj) e
  have one : ∃ j, j < n ∧ settledOf n k x = clockOf k x j := by
    rcases f3 with f3 | ⟨j, hj, hn, f3⟩
    · refine ⟨k, hk, ?_⟩
      unfold clockOf
      rw [if_pos rfl]
      exact f3
    · refine ⟨j, List.mem_range.mp hj, ?_⟩
      unfold clockOf
      rw [if_neg hn]
      exact f3
  obtain ⟨j, hj, rfl⟩ := List.mem_map.mp h1
  obtain ⟨i, hi, e⟩ := one
  have a1 := le j (List.mem_range.mp hj)
  have a2 := h2 _ (List.mem_map.mpr ⟨i, List.mem_range.mpr hi, rfl⟩)
  rw [← e] at a2
  omega

/-- a replica that was made just now: nothing of it stood in H -/
def SiteNew (C : Addr) (H H' : Hp) (a : Addr) (k : Nat) (x : Desk) : Prop := ∃ dx c l s f r, H' a = some (.ins C dx (siteG k x.clock x.gone c l s f r)) ∧ SiteD (Fresh H H') x c l s f r
theorem SiteNew.at_ {C : Addr} {H H' : Hp} {a k : Nat} {x : Desk} (h : SiteNew C H H' a k x) : SiteAt C H' a k x := by
  obtain ⟨dx, c, l, s, f, r, h1, h2⟩ := h
  exact ⟨dx, c, l, s, f, r, h1, h2.keep (Keep.of (fresh_sub H H'))⟩
theorem But.free {p b : Addr} {H H' : Hp} {o : HO} (x : But p H H') (hp : H' p = some o) (hb : H' b = none) : H b = none := by
  cases e : H b with
  | none => rfl
  | some u =>
    by_cases q : b = p
    · rw [q, hp] at hb
      cases hb
    · rw [x b u e q] at hb
      cases hb
/-! ## the promises -/
def spInit (C : Addr) : Sp := fun vs H Q _ => ∃ (p dx : Addr) (k n : Nat), vs = [.ref p, vN k, vN n] ∧ H p = some (.ins C dx []) ∧ n ≤ 6 ∧
  ∀ H', SiteNew C H H' p k (Sq33.none_ n) → But p H H' → Q .non H'
def spTree (C : Addr) : Sp := fun vs H Q _ => ∃ (a : Addr) (n k : Nat) (x : Desk), vs = [.ref a] ∧ SiteAt C H a k x ∧ DkOk n k x ∧
  ∀ H' p, Same H H' → TrAt H' p x.tree → Q (.ref p) H'
def spConf (C : Addr) : Sp := fun vs H Q _ => ∃ (a : Addr) (n k j : Nat) (x : Desk), vs = [.ref a, vN j] ∧ SiteAt C H a k x ∧ DkOk n k x ∧ j < n ∧
  ∀ c, CtAt H c (sureOf k x j) → Q (.ref c) H
def spClock (C : Addr) : Sp := fun vs H Q _ => ∃ (a : Addr) (n k j : Nat) (x : Desk), vs = [.ref a, vN j] ∧ SiteAt C H a k x ∧ DkOk n k x ∧ j < n ∧ Q (vN (clockOf k x j)) H
def spHorizon (C : Addr) : Sp := fun vs H Q _ => ∃ (a : Addr) (n k : Nat) (x : Desk), vs = [.ref a] ∧ SiteAt C H a k x ∧ DkOk n k x ∧ ∀ H', Same H H' → Q (vN (settledOf n k x)) H'
def spIsConf (C : Addr) : Sp := fun vs H Q _ => ∃ (a : Addr) (v : V) (d : Deed) (n k : Nat) (x : Desk), vs = [.ref a, v] ∧ SiteAt C H a k x ∧ DkOk n k x ∧ MvAt H v d ∧ d.desk < n ∧ ∀ H', Same H H' → Q (.bl (allHaveOf n k x d)) H'
def spMany (C : Addr) : Sp := fun vs H Q _ => ∃ (a : Addr) (n k : Nat) (x : Desk), vs = [.ref a] ∧ SiteAt C H a k x ∧ DkOk n k x ∧ ∀ H', Same H H' → Q (vN (ripeOf n k x).length) H'

theorem SiteAt.keepA {C : Addr} {H H' : Hp} {a k : Nat} {x : Desk} (s : Same H H') (h : SiteAt C H a k x) : SiteAt C H' a k x := by
  obtain ⟨dx, c, l, t, f, r, h1, h2⟩ := h
  exact ⟨dx, c, l, t, f, r, s _ _ h1, h2.keep (Keep.of s)⟩
theorem rep_zero (n : Nat) : (List.replicate n [V.int 0]).flatten = (List.replicate n 0).map vN := by
  induction n with
  | zero => rfl
  | succ n ih =>
    rw [List.replicate_succ, List.flatten_cons, ih]
    rfl

/-! the attributes as __init__ lays them -/
def fs1 (k : Nat) : List (Str × V) := [("number", vN k)]
def fs2 (k : Nat) : List (Str × V) := [("number", vN k), ("clock", V.int 0)]
def fs3 (k : Nat) (c : Addr) : List (Str × V) := [("number", vN k), ("clock", V.int 0), ("counts", V.ref c)]
def fs4 (k : Nat) (c l : Addr) : List (Str × V) := [("number", vN k), ("clock", V.int 0), ("counts", V.ref c), ("log", V.ref l)]
def fs5 (k : Nat) (c l t : Addr) : List (Str × V) := [("number", vN k), ("clock", V.int 0), ("counts", V.ref c), ("log", V.ref l), ("snapshot", V.ref t)]
def fs6 (k : Nat) (c l t f : Addr) : List (Str × V) := [("number", vN k), ("clock", V.int 0), ("counts", V.ref c), ("log", V.ref l), ("snapshot", V.ref t), ("own_confirmed", V.ref f)]
def fs7 (k : Nat) (c l t f r : Addr) : List (Str × V) := [("number", vN k), ("clock", V.int 0), ("counts", V.ref c), ("log", V.ref l), ("snapshot", V.ref t), ("own_confirmed", V.ref f), ("own_reported", V.ref r)]
def fs8 (k : Nat) (c l t f r : Addr) : List (Str × V) := [("number", vN k), ("clock", V.int 0), ("counts", V.ref c), ("log", V.ref l), ("snapshot", V.ref t), ("own_confirmed", V.ref f), ("own_reported", V.ref r), ("many_compacted", V.int 0)]
theorem fq1 {k : Nat} : putF "number" (vN k) [] = fs1 k := rfl
theorem fq2 {k : Nat} : putF "clock" (V.int 0) (fs1 k) = fs2 k := (pt_by (by decide +kernel)).trans (congrArg _ (rfl))
theorem fq3 {k : Nat} {c : Addr} : putF "counts" (V.ref c) (fs2 k) = fs3 k c := (pt_by (by decide +kernel)).trans (congrArg _ ((pt_by (by decide +kernel)).trans (congrArg _ (rfl))))
theorem fq4 {k : Nat} {c l : Addr} : putF "log" (V.ref l) (fs3 k c) = fs4 k c l := (pt_by (by decide +kernel)).trans (congrArg _ ((pt_by (by decide +kernel)).trans (congrArg _ ((pt_by (by decide +kernel)).trans (congrArg _ (rfl))))))
theorem fq5 {k : Nat} {c l t : Addr} : putF "snapshot" (V.ref t) (fs4 k c l) = fs5 k c l t := (pt_by (by decide +kernel)).trans (congrArg _ ((pt_by (by decide +kernel)).trans (congrArg _ ((pt_by (by decide +kernel)).trans (congrArg _ ((pt_by (by decide +kernel)).trans (congrArg _ (rfl))))))))
theorem fq6 {k : Nat} {c l t f : Addr} : putF "own_confirmed" (V.ref f) (fs5 k c l t) = fs6 k c l t f := (pt_by (by decide +kernel)).trans (congrArg _ ((pt_by (by decide +kernel)).trans (congrArg _ ((pt_by (by decide +kernel)).trans (congrArg _ ((pt_by (by decide +kernel)).trans (congrArg _ ((pt_by (by decide +kernel)).trans (congrArg _ (rfl))))))))))
theorem fq7 {k : Nat} {c l t f r : Addr} : putF "own_reported" (V.ref r) (fs6 k c l t f) = fs7 k c l t f r := (pt_by (by decide +kernel)).trans (congrArg _ ((pt_by (by decide +kernel)).trans (congrArg _ ((pt_by (by decide +kernel)).trans (congrArg _ ((pt_by (by decide +kernel)).trans (congrArg _ ((pt_by (by decide +kernel)).trans (congrArg _ ((pt_by (by decide +kernel)).trans (congrArg _ (rfl))))))))))))
theorem fq8 {k : Nat} {c l t f r : Addr} : putF "many_compacted" (V.int 0) (fs7 k c l t f r) = fs8 k c l t f r := (pt_by (by decide +kernel)).trans (congrArg _ ((pt_by (by decide +kernel)).trans (congrArg _ ((pt_by (by decide +kernel)).trans (congrArg _ ((pt_by (by decide +kernel)).trans (congrArg _ ((pt_by (by decide +kernel)).trans (congrArg _ ((pt_by (by decide +kernel)).trans (congrArg _ ((pt_by (by decide +kernel)).trans (congrArg _ (rfl))))))))))))))
theorem fs_all {k : Nat} {c l t f r : Addr} : fs8 k c l t f r = siteG k 0 0 c l t f r := rfl
theorem stage {p C dx : Addr} {H Hi : Hp} {fs : List (Str × V)} (fs' : List (Str × V)) (b : But p H Hi) (h : Hi p = some (.ins C dx fs)) :
    But p H (upd Hi p (.ins C dx fs')) ∧ upd Hi p (.ins C dx fs') p = some (.ins C dx fs') ∧ Keep Hi (upd Hi p (.ins C dx fs')) := ⟨b.upd, upd_same, Keep.ins h⟩

section
variable {P : Program} {w : World} {K : PySem.W.Frag} {mg : Str → Option Value} {base : Heap} {C : Addr}
abbrev meth (j : Nat) : Stmt := inClass (top 33) j

theorem sc_init : FnScope ["self", "number", "many", "other"] ["self", "number", "many"] (defScope (meth 0)) := ⟨rfl, rfl, rfl, by decide +kernel, rfl, by decide +kernel, by decide +kernel⟩
theorem ok_init (D : InitAt K mg "Site" C "Site.__init__" (meth 0) ["self", "number", "many"]) (T : SiteT K C) (c1 : CalD P w K mg base 1 "bare_tree" [] spBare) (gr : mg "range" = none) : CalC P w K mg base 2 "Site" C ["self", "number", "many"] (spInit C) := by
  refine D.ok sc_init (fun vs H Q E h => ?_) (fun f cdv A outer s H vs Q E hr h => ?_)
  · obtain ⟨p, dx, k, n, rfl, _⟩ := h
    rfl
  · obtain ⟨p, dx, k, n, rfl, hp, hn, q⟩ := h
    refine ⟨_, pss_cons (ps_fld (pv 0) (pv 1) rfl) (pss_cons (ps_fld (pv 0) pe_int rfl)
      (pss_cons (ps_fld (pv 0) (pe_op op_rep (pe_lst (pa_cons pe_int pa_nil)) (pv 2)) rfl) (pss_cons (ps_fld (pv 0) (pe_lst pa_nil) rfl)
      (pss_cons (ps_fld (pv 0) (qc0 c1 hr (by decide) rfl) rfl)
      (pss_cons (ps_fld (pv 0) (pe_lc (own := [("other", 3)]) (g := gName 3) (tt := tYes) (te := tOp rRep (tLst (tCons (tC (.int 0)) tNil)) (tVar 2)) rfl sc_init.nd (pi_range1 rfl gr (pa_cons (pv 2) pa_nil)) (blkOk_by (own := [("other", 3)]) (N := ["self", "number", "many", "other"]) (sc := defScope (meth 0)) (by decide +kernel))
        (fun _ _ _ _ _ => pg_name (i := 3) sc_init.nd rfl (Or.inl rfl)) (fun _ _ _ _ _ => pts_nil) (fun _ _ _ _ _ => pe_op op_rep (pe_lst (pa_cons pe_int pa_nil)) (pv 2))) rfl)
      (pss_cons (ps_fld (pv 0) (pe_op op_rep (pe_lst (pa_cons pe_int pa_nil)) (pv 2)) rfl)
      (pss_one (ps_fld (pv 0) pe_int rfl)))))))), ?_⟩
    have hn2 : (n : Int).toNat = n := Int.toNat_natCast n
    have b0 : But p H H := But.refl p H
    -- number
    refine ⟨_, rfl, _, rfl, p, C, dx, [], rfl, hp, T.cl, T.n_number, (by decide), ?_⟩
    rw [fq1]
    obtain ⟨b1, h1, _⟩ := stage (fs1 k) b0 hp
    generalize upd H p (.ins C dx (fs1 k)) = H1 at *
    -- clock
    refine ⟨_, rfl, p, C, dx, _, rfl, h1, T.cl, T.n_clock, (by show 1 < 1000; decide), ?_⟩
    rw [fq2]
    obtain ⟨b2, h2, _⟩ := stage (fs2 k) b1 h1
    generalize upd H1 p (.ins C dx (fs2 k)) = H2 at *
    -- counts
    refine ⟨(by show 1 ≤ sizeLine; decide), fun a1 n1 => ⟨_, rfl, a1, _, _, rfl, rfl, upd_same, by omega, by omega, by rw [hn2]; exact len_le (by simp; omega), fun a2 n2 => ?_⟩⟩
    rw [hn2, rep_zero]
    have s3 : Same H2 (upd (upd H2 a1 (.lst [V.int 0])) a2 (.lst ((List.replicate n 0).map vN))) := (same_new n1).trans (same_new n2)
    have fr2 : H a2 = none := b2.free h2 ((same_new n1).free n2)
    have c3 : CtAt (upd (upd H2 a1 (.lst [V.int 0])) a2 (.lst ((List.replicate n 0).map vN))) a2 (List.replicate n 0) := upd_same
    generalize upd (upd H2 a1 (.lst [V.int 0])) a2 (.lst ((List.replicate n 0).map vN)) = H3 at *
    refine ⟨_, rfl, p, C, dx, _, rfl, s3 _ _ h2, T.cl, T.n_counts, (by show 2 < 1000; decide), ?_⟩
    rw [fq3]
    obtain ⟨b4, h4, k4⟩ := stage (fs3 k a2) (b2.trans (But.of s3)) (s3 _ _ h2)
    have c4 := c3.keep k4
    generalize upd H3 p (.ins C dx (fs3 k a2)) = H4 at *
    -- log
    refine ⟨Nat.zero_le _, fun a3 n3 => ?_⟩
    have s5 : Same H4 (upd H4 a3 (.lst [])) := same_new n3
    have fr3 : H a3 = none := b4.free h4 n3
    have l5 : LgAt (upd H4 a3 (.lst [])) a3 [] := ⟨[], upd_same, .nil⟩
    generalize upd H4 a3 (.lst []) = H5 at *
    refine ⟨_, rfl, p, C, dx, _, rfl, s5 _ _ h4, T.cl, T.n_log, (by show 3 < 1000; decide), ?_⟩
    rw [fq4]
    obtain ⟨b6, h6, k6⟩ := stage (fs4 k a2 a3) (b4.trans (But.of s5)) (s5 _ _ h4)
    have c6 := (c4.keep (Keep.of s5)).keep k6
    have l6 := l5.keep k6
    generalize upd H5 p (.ins C dx (fs4 k a2 a3)) = H6 at *
    -- snapshot
    refine ⟨rfl, fun H7 a4 s7 t7 => ?_⟩
    refine ⟨_, rfl, p, C, dx, _, rfl, s7 _ _ h6, T.cl, T.n_snapshot, (by show 4 < 1000; decide), ?_⟩
    rw [fq5]
    obtain ⟨b8, h8, k8⟩ := stage (fs5 k a2 a3 a4) (b6.trans (But.of s7)) (s7 _ _ h6)
    have c8 := (c6.keep (Keep.of s7)).keep k8
    have l8 := (l6.keep (Keep.of s7)).keep k8
    have t8 := t7.keep (fresh_mono (G := H) (fun b hb => b6.free h6 hb) k8)
    generalize upd H7 p (.ins C dx (fs5 k a2 a3 a4)) = H8 at *
    -- own_confirmed
    refine ⟨_, rfl, (n : Int), rfl, by omega, by omega, fun a5 n5 => ?_⟩
    rw [hn2]
    have fr5 : H a5 = none := b8.free h8 n5
    refine lc_range (lo := 0) (n := n) (fun i H' => Same H8 H' ∧ ∃ vs, H' a5 = some (.lst vs) ∧ PySem.Paired (fun v c => ∃ b, v = .ref b ∧ (b ≠ a5 ∧ H b = none) ∧ CtAt H' b c) vs (List.replicate i (List.replicate n 0))) ⟨same_new n5, [], upd_same, .nil⟩ ?_ ?_
    · rintro i H' hi ⟨s9, us, hu, hus⟩
      refine ⟨rfl, (by show 1 ≤ sizeLine; decide), fun x1 m1 => ⟨_, rfl, x1, _, _, rfl, rfl, upd_same, by omega, by omega, by rw [hn2]; exact len_le (by simp; omega), fun x2 m2 => ?_⟩⟩
      rw [hn2, rep_zero]
      have sA : Same H' (upd (upd H' x1 (.lst [V.int 0])) x2 (.lst ((List.replicate n 0).map vN))) := (same_new m1).trans (same_new m2)
      have cA : CtAt (upd (upd H' x1 (.lst [V.int 0])) x2 (.lst ((List.replicate n 0).map vN))) x2 (List.replicate n 0) := upd_same
      have hx : x2 ≠ a5 := fun e => by
        have := same_new (o := .lst [V.int 0]) m1 _ _ hu
        rw [← e, m2] at this
        cases this
      have frx : H x2 = none := b8.free h8 ((s9.trans (same_new m1)).free m2)
      generalize upd (upd H' x1 (.lst [V.int 0])) x2 (.lst ((List.replicate n 0).map vN)) = HA at *
      refine ⟨us, sA _ _ hu, ?_, same_mut (s9.trans sA) n5, us ++ [.ref x2], upd_same, ?_⟩
      · rw [hus.length, List.length_replicate]
        exact len_small (by omega)
      · rw [List.replicate_succ']
        refine pr_last (Paired.mapP hus ?_) ⟨x2, rfl, ⟨hx, frx⟩, ?_⟩
        · rintro v c ⟨b, rfl, hb, hc⟩
          refine ⟨b, rfl, hb, ?_⟩
          unfold CtAt
          rw [upd_ne hb.1]
          exact sA _ _ hc
        · unfold CtAt
          rw [upd_ne hx]
          exact cA
    · rintro H9 ⟨s9, us, hu, hus⟩
      have f9 : CfAt (Fresh H H9) a5 (List.replicate n (List.replicate n 0)) := ⟨us, fresh_at fr5 hu, Paired.mapP hus fun v c ⟨b, e, hb, hc⟩ => ⟨b, e, fresh_at hb.2 hc⟩⟩
      refine ⟨_, rfl, p, C, dx, _, rfl, s9 _ _ h8, T.cl, T.n_own_confirmed, (by show 5 < 1000; decide), ?_⟩
      rw [fq6]
      obtain ⟨bB, hB, kB⟩ := stage (fs6 k a2 a3 a4 a5) (b8.trans (But.of s9)) (s9 _ _ h8)
      have cB := (c8.keep (Keep.of s9)).keep kB
      have lB := (l8.keep (Keep.of s9)).keep kB
      have tB := t8.keep (fresh_mono (G := H) (fun b hb => hb) ((Keep.of s9).trans kB))
      have fB := f9.keep (fresh_mono (G := H) (fun b hb => hb) kB)
      generalize upd H9 p (.ins C dx (fs6 k a2 a3 a4 a5)) = HB at *
      -- own_reported
      refine ⟨(by show 1 ≤ sizeLine; decide), fun y1 m1 => ⟨_, rfl, y1, _, _, rfl, rfl, upd_same, by omega, by omega, by rw [hn2]; exact len_le (by simp; omega), fun y2 m2 => ?_⟩⟩
      rw [hn2, rep_zero]
      have fry : H y2 = none := bB.free hB ((same_new m1).free m2)
      have sC : Same HB (upd (upd HB y1 (.lst [V.int 0])) y2 (.lst ((List.replicate n 0).map vN))) := (same_new m1).trans (same_new m2)
      have rC : CtAt (upd (upd HB y1 (.lst [V.int 0])) y2 (.lst ((List.replicate n 0).map vN))) y2 (List.replicate n 0) := upd_same
      generalize upd (upd HB y1 (.lst [V.int 0])) y2 (.lst ((List.replicate n 0).map vN)) = HC at *
      refine ⟨_, rfl, p, C, dx, _, rfl, sC _ _ hB, T.cl, T.n_own_reported, (by show 6 < 1000; decide), ?_⟩
      rw [fq7]
      obtain ⟨bD, hD, kD⟩ := stage (fs7 k a2 a3 a4 a5 y2) (bB.trans (But.of sC)) (sC _ _ hB)
      have kCD := (Keep.of sC).trans kD
      have rD := rC.keep kD
      generalize upd HC p (.ins C dx (fs7 k a2 a3 a4 a5 y2)) = HD at *
      -- many_compacted
      refine ⟨_, rfl, p, C, dx, _, rfl, hD, T.cl, T.n_many_compacted, (by show 7 < 1000; decide), ?_⟩
      rw [fq8]
      obtain ⟨bE, hE, kE⟩ := stage (fs8 k a2 a3 a4 a5 y2) bD hD
      refine q _ ⟨dx, a2, a3, a4, a5, y2, hE, ?_⟩ bE
      have kk := kCD.trans kE
      have kf := fresh_mono (H := H) (G := H) (fun b hb => hb) kk
      refine ⟨fresh_at fr2 (cB.keep kk), ?_, tB.keep kf, fB.keep kf, fresh_at fry (rD.keep kE)⟩
      obtain ⟨vs, e1, e2⟩ := lB.keep kk
      cases e2
      exact ⟨[], fresh_at fr3 e1, .nil⟩

theorem sc_tree : FnScope ["self"] ["self"] (defScope (meth 1)) := ⟨rfl, rfl, rfl, by decide +kernel, rfl, by decide +kernel, by decide +kernel⟩
theorem ok_tree (D : MethAt K C "tree_now" "Site.tree_now" (meth 1) ["self"]) (T : SiteT K C) (c1 : CalD P w K mg base 4 "all_applied" ["tree", "moves"] spAll) : CalM P w K mg base 5 C "tree_now" ["self"] (spTree C) := by
  refine D.ok T.cl sc_tree (fun vs H Q E h => ?_) (fun f cdv A outer s H vs Q E hr h => ?_)
  · obtain ⟨a, n, k, x, rfl, _⟩ := h
    rfl
  · obtain ⟨a, n, k, x, rfl, ⟨dx, c, l, t, f, r, hA, sd⟩, dk, q⟩ := h
    refine ⟨_, pss_one (ps_ret (qc c1 hr (by decide) rfl (pa_cons (pe_fld (pv 0) rfl) (pa_cons (pe_fld (pv 0) rfl) pa_nil)))), ?_⟩
    refine ⟨_, rfl, a, C, dx, _, _, rfl, hA, T.cl, T.n_snapshot, sg_snapshot, _, rfl, a, C, dx, _, _, rfl, hA, T.cl, T.n_log, sg_log, ?_⟩
    exact ⟨t, l, x.kept, x.base, rfl, sd.snap, dk.base, sd.log, dk.mv, fun H' p s1 ht => q H' p s1 ht⟩

theorem sc_conf : FnScope ["self", "other"] ["self", "other"] (defScope (meth 2)) := ⟨rfl, rfl, rfl, by decide +kernel, rfl, by decide +kernel, by decide +kernel⟩
theorem ok_conf (D : MethAt K C "confirmed_for" "Site.confirmed_for" (meth 2) ["self", "other"]) (T : SiteT K C) : CalM P w K mg base 1 C "confirmed_for" ["self", "other"] (spConf C) := by
  refine D.ok T.cl sc_conf (fun vs H Q E h => ?_) (fun f cdv A outer s H vs Q E hr h => ?_)
  · obtain ⟨a, n, k, j, x, rfl, _⟩ := h
    rfl
  · obtain ⟨a, n, k, j, x, rfl, ⟨dx, c, l, t, f, r, hA, sd⟩, dk, hj, q⟩ := h
    refine ⟨_, pss_one (ps_ret (pe_ifExp (pt_cmpR op_eq (pv 1) (pe_fld (pv 0) rfl) (nomark _)) (pe_fld (pv 0) rfl) (pe_ix ix_list (pe_fld (pv 0) rfl) (pv 1) (fun _ _ => rfl)))), ?_⟩
    refine ⟨_, rfl, rd_number T hA rfl ⟨rfl, _, rfl, iteD (fun e => ?_) (fun e => ?_)⟩⟩
    · have e : j = k := by have := vint e; omega
      refine rd_counts T hA rfl (q c ?_)
      unfold sureOf
      rw [if_pos e.symm]
      exact sd.has
    · have e : ¬ k = j := fun z => e (by rw [z])
      obtain ⟨vs, hf, hv⟩ := sd.conf
      have hjl : j < x.sure.length := by rw [dk.sureL]; exact hj
      obtain ⟨v, hvj, b, rfl, hb⟩ := pr_get hv (List.getElem?_eq_getElem hjl)
      refine rd_own_confirmed T hA rfl ⟨_, rfl, f, _, _, _, rfl, rfl, .inl (.inl hf), at_of rfl hvj, q b ?_⟩
      unfold sureOf
      rw [if_neg e, List.getElem?_eq_getElem hjl]
      exact hb

theorem sc_clock : FnScope ["self", "other"] ["self", "other"] (defScope (meth 3)) := ⟨rfl, rfl, rfl, by decide +kernel, rfl, by decide +kernel, by decide +kernel⟩
theorem ok_clock (D : MethAt K C "clock_of" "Site.clock_of" (meth 3) ["self", "other"]) (T : SiteT K C) : CalM P w K mg base 1 C "clock_of" ["self", "other"] (spClock C) := by
  refine D.ok T.cl sc_clock (fun vs H Q E h => ?_) (fun f cdv A outer s H vs Q E hr h => ?_)
  · obtain ⟨a, n, k, j, x, rfl, _⟩ := h
    rfl
  · obtain ⟨a, n, k, j, x, rfl, ⟨dx, c, l, t, f, r, hA, sd⟩, dk, hj, q⟩ := h
    refine ⟨_, pss_one (ps_ret (pe_ifExp (pt_cmpR op_eq (pv 1) (pe_fld (pv 0) rfl) (nomark _)) (pe_fld (pv 0) rfl) (pe_ix ix_list (pe_fld (pv 0) rfl) (pv 1) (fun _ _ => rfl)))), ?_⟩
    refine ⟨_, rfl, rd_number T hA rfl ⟨rfl, _, rfl, iteD (fun e => ?_) (fun e => ?_)⟩⟩
    · have e : j = k := by have := vint e; omega
      unfold clockOf at q
      rw [if_pos e] at q
      exact rd_clock T hA rfl q
    · have e : ¬ j = k := fun z => e (by rw [z])
      unfold clockOf at q
      rw [if_neg e] at q
      exact rd_own_reported T hA rfl ⟨_, rfl, r, _, _, _, rfl, rfl, .inl (.inl sd.rep), at_map rfl (at_get (by rw [dk.heard]; exact hj)), q⟩

theorem sc_horizon : FnScope ["self", "other"] ["self"] (defScope (meth 4)) := ⟨rfl, rfl, rfl, by decide +kernel, rfl, by decide +kernel, by decide +kernel⟩
theorem ok_horizon (D : MethAt K C "horizon_now" "Site.horizon_now" (meth 4) ["self"]) (T : SiteT K C) (c1 : CalM P w K mg base 1 C "clock_of" ["self", "other"] (spClock C)) (gm : mg "min" = none) (gr : mg "range" = none) (gl : mg "len" = none) : CalM P w K mg base 2 C "horizon_now" ["self"] (spHorizon C) := by
  refine D.ok T.cl sc_horizon (fun vs H Q E h => ?_) (fun f cdv A outer s H vs Q E hr h => ?_)
  · obtain ⟨a, n, k, x, rfl, _⟩ := h
    rfl
  · obtain ⟨a, n, k, x, rfl, hS, dk, q⟩ := h
    obtain ⟨dx, c, l, t, f, r, hA, sd⟩ := id hS
    refine ⟨_, pss_one (ps_ret (pe_callB (cr_min rfl) rfl gm PyProof.Rows.boot_min (pa_cons (pe_lc (own := [("other", 1)]) (g := gName 1) (tt := tYes) (te := tMeth C "clock_of" (spClock C) [] E0 (tVar 0) (tCons (tVar 1) tNil)) rfl sc_horizon.nd
      (pi_range1 rfl gr (pa_cons (pe_callB call_len_seq rfl gl PySem.boot_len (pa_cons (pe_fld (pv 0) rfl) pa_nil)) pa_nil)) (blkOk_by (own := [("other", 1)]) (N := ["self", "other"]) (sc := defScope (meth 4)) (by decide +kernel))
      (fun _ _ _ _ _ => pg_name (i := 1) sc_horizon.nd rfl (Or.inl rfl)) (fun _ _ _ _ _ => pts_nil) (fun _ _ _ _ _ => qm c1 hr (by decide) (pv 0) (pa_cons (pv 1) pa_nil))) pa_nil))), ?_⟩
    have hn6 := dk.hi
    refine rd_counts T hA rfl ⟨c, _, rfl, .inl (.inl (.inl sd.has)), ?_⟩
    rw [List.length_map, dk.has]
    refine ⟨_, rfl, by omega, by omega, fun p np => ?_⟩
    rw [Int.toNat_natCast]
    refine lc_range (lo := 0) (n := n) (fun i H' => Same H H' ∧ H' p = some (.lst (((List.range i).map fun j => ((clockOf k x j : Nat) : Int)).map V.int))) ⟨same_new np, upd_same⟩ ?_ ?_
    · rintro i H' hi ⟨s1, hp⟩
      have e0 : V.int (0 + (i : Int)) = vN i := congrArg V.int (Int.zero_add _)
      refine ⟨rfl, _, rfl, a, dx, _, rfl, s1 _ _ hA, sg_none (by decide +kernel), _, rfl, a, n, k, i, x, congrArg (fun z => [V.ref a, z]) e0, hS.keepA s1, dk, hi, ?_⟩
      refine ⟨_, hp, ?_, same_mut s1 np, ?_⟩
      · simp
        exact len_small (by omega)
      · rw [upd_same, List.range_succ, List.map_append, List.map_append]
        rfl
    · rintro H' ⟨s1, hp⟩
      refine ⟨p, _, rfl, .inl (.inl hp), by simp; have := dk.me; omega, fun m h1 h2 => ?_⟩
      rw [settled_min dk.me h1 h2]
      exact q H' s1

theorem sc_isconf : FnScope ["self", "move", "other"] ["self", "move"] (defScope (meth 5)) := ⟨rfl, rfl, rfl, by decide +kernel, rfl, by decide +kernel, by decide +kernel⟩
theorem ok_isconf (D : MethAt K C "is_confirmed" "Site.is_confirmed" (meth 5) ["self", "move"]) (T : SiteT K C) (c1 : CalD P w K mg base 1 "is_beyond" ["move", "counts"] spIsBeyond) (c2 : CalM P w K mg base 1 C "confirmed_for" ["self", "other"] (spConf C))
    (ga : mg "any" = none) (gr : mg "range" = none) (gl : mg "len" = none) : CalM P w K mg base 2 C "is_confirmed" ["self", "move"] (spIsConf C) := by
  refine D.ok T.cl sc_isconf (fun vs H Q E h => ?_) (fun f cdv A outer s H vs Q E hr h => ?_)
  · obtain ⟨a, v, d, n, k, x, rfl, _⟩ := h
    rfl
  · obtain ⟨a, v, d, n, k, x, rfl, hS, dk, hv, hd, q⟩ := h
    obtain ⟨dx, c, l, t, f, r, hA, sd⟩ := id hS
    refine ⟨_, pss_one (ps_ret (pe_not (pe_callB (cr_any rfl) rfl ga PyProof.Rows.boot_any (pa_cons (pe_lc (own := [("other", 2)]) (g := gName 2) (tt := tYes) (te := tCall spIsBeyond [] E0 (tCons (tVar 1) (tCons (tMeth C "confirmed_for" (spConf C) [] E0 (tVar 0) (tCons (tVar 2) tNil)) tNil))) rfl sc_isconf.nd
      (pi_range1 rfl gr (pa_cons (pe_callB call_len_seq rfl gl PySem.boot_len (pa_cons (pe_fld (pv 0) rfl) pa_nil)) pa_nil)) (blkOk_by (own := [("other", 2)]) (N := ["self", "move", "other"]) (sc := defScope (meth 5)) (by decide +kernel))
      (fun _ _ _ _ _ => pg_name (i := 2) sc_isconf.nd rfl (Or.inl rfl)) (fun _ _ _ _ _ => pts_nil) (fun _ _ _ _ _ => qc c1 hr (by decide) rfl (pa_cons (pv 1) (pa_cons (qm c2 hr (by decide) (pv 0) (pa_cons (pv 2) pa_nil)) pa_nil)))) pa_nil)))), ?_⟩
    have hn6 := dk.hi
    refine rd_counts T hA rfl ⟨c, _, rfl, .inl (.inl (.inl sd.has)), ?_⟩
    rw [List.length_map, dk.has]
    refine ⟨_, rfl, by omega, by omega, fun p np => ?_⟩
    rw [Int.toNat_natCast]
    refine lc_range (lo := 0) (n := n) (fun i H' => Same H H' ∧ H' p = some (.lst (((List.range i).map fun j => !decide (d.n ≤ at_ (sureOf k x j) d.desk)).map V.bl))) ⟨same_new np, upd_same⟩ ?_ ?_
    · rintro i H' hi ⟨s1, hp⟩
      have e0 : V.int (0 + (i : Int)) = vN i := congrArg V.int (Int.zero_add _)
      refine ⟨rfl, _, rfl, _, rfl, a, dx, _, rfl, s1 _ _ hA, sg_none (by decide +kernel), _, rfl, a, n, k, i, x, congrArg (fun z => [V.ref a, z]) e0, hS.keepA s1, dk, hi, fun b hb => ?_⟩
      refine ⟨v, d, b, _, rfl, hv.keep (Keep.of s1), hb, by rw [dk.sureLen hi]; exact hd, ?_⟩
      refine ⟨_, hp, ?_, same_mut s1 np, ?_⟩
      · simp
        exact len_small (by omega)
      · rw [upd_same, List.range_succ, List.map_append, List.map_append]
        rfl
    · rintro H' ⟨s1, hp⟩
      refine ⟨p, _, rfl, .inl (.inl hp), _, rfl, ?_⟩
      have e : (!(((List.range n).map fun j => !decide (d.n ≤ at_ (sureOf k x j) d.desk)).any id)) = allHaveOf n k x d := by
        unfold allHaveOf
        rw [List.any_map]
        generalize List.range n = L
        induction L with
        | nil => rfl
        | cons j L ih =>
          rw [List.any_cons, List.all_cons, Bool.not_or, ih]
          simp
      rw [e]
      exact q H' s1

theorem sc_many : FnScope ["self", "horizon", "many", "move"] ["self"] (defScope (meth 6)) := ⟨rfl, rfl, rfl, by decide +kernel, rfl, by decide +kernel, by decide +kernel⟩
theorem ok_many (D : MethAt K C "many_compactable" "Site.many_compactable" (meth 6) ["self"]) (T : SiteT K C) (c1 : CalM P w K mg base 2 C "horizon_now" ["self"] (spHorizon C)) (c2 : CalM P w K mg base 2 C "is_confirmed" ["self", "move"] (spIsConf C))
    (gC : IntG mg "COUNTER" 0) : CalM P w K mg base 3 C "many_compactable" ["self"] (spMany C) := by
  refine D.ok T.cl sc_many (fun vs H Q E h => ?_) (fun f cdv A outer s H vs Q E hr h => ?_)
  · obtain ⟨a, n, k, x, rfl, _⟩ := h
    rfl
  · obtain ⟨a, n, k, x, rfl, hS, dk, q⟩ := h
    obtain ⟨dx, c, l, t, f, r, hA, sd⟩ := id hS
    obtain ⟨ms, hl, hms⟩ := id sd.log
    have nd := sc_many.nd
    refine ⟨_, pss_cons (ps_set (i := 1) nd rfl (Or.inl rfl) (qm0 c1 hr (by decide) (pv 0)))
      (pss_cons (ps_set (i := 2) nd rfl (Or.inl rfl) pe_int)
      (pss_cons (ps_for PassesOwn.never rfl (pi_list (pe_fld (pv 0) rfl)) (pg_name (i := 3) nd rfl (Or.inl rfl))
        (pss_cons (ps_if (PW.pt (pw_or (pt_cmpR op_gt (pe_ix ix_tup (pv 3) (qg gC) (fun _ _ => rfl)) (pv 1) (nomark _)) (pw_or1 (pt_not (pt_val (qm c2 hr (by decide) (pv 0) (pa_cons (pv 3) pa_nil))))))) (pss_one (ps_ret (pv 2))) pss_nil)
        (pss_one (ps_set (i := 2) nd rfl (Or.inl rfl) (pe_op op_add (pv 2) pe_int)))))
      (pss_one (ps_ret (pv 2))))), ?_⟩
    refine ⟨_, rfl, a, dx, _, rfl, hA, sg_none (by decide +kernel), a, n, k, x, rfl, hS, dk, fun H1 s1 => ?_⟩
    refine ⟨_, rfl, a, C, dx, _, _, rfl, s1 _ _ hA, T.cl, T.n_log, sg_log, ?_⟩
    refine ⟨l, rfl, ⟨_, .inl (.inl (s1 _ _ hl))⟩, for_list (K := K) (a := l) (xs := ms) (fun i σ H' => Same H1 H' ∧ ∃ o : Option V, σ = [some (.ref a), some (vN (settledOf n k x)), some (vN i), o] ∧ (ripeOf n k x).length = i + ((x.kept.drop i).takeWhile fun d => allHaveOf n k x d && decide (d.move.stamp.count ≤ settledOf n k x)).length)
      ⟨Same.refl H1, none, rfl, by rw [List.drop_zero, Nat.zero_add]; rfl⟩ (fun i σ H' _ h => .inl (.inl (h.1 _ _ (s1 _ _ hl)))) ?_ ?_⟩
    · rintro i v σ H' hi ⟨s2, o, rfl, hi2⟩
      obtain ⟨d, hdi, hv⟩ := pr_got hms hi
      have hv' := hv.keep (Keep.of (s1.trans s2))
      obtain ⟨m, rfl, hm⟩ := id hv'
      have ed : x.kept.drop i = d :: x.kept.drop (i + 1) := by
        obtain ⟨h1, e⟩ := List.getElem?_eq_some_iff.mp hdi
        rw [← e]
        exact List.drop_eq_getElem_cons h1
      refine ⟨_, rfl, m, _, _, vN d.move.stamp.count, rfl, rfl, .inl (.inl hm), at_of (j := 0) rfl rfl, _, rfl, _, _, rfl, rfl, _, rfl, iteD (fun h => ?_) (fun h => ?_)⟩
      · -- beyond the horizon
        have ew : ((x.kept.drop i).takeWhile fun d => allHaveOf n k x d && decide (d.move.stamp.count ≤ settledOf n k x)) = [] := by
          rw [ed, List.takeWhile_cons, if_neg (by rw [decide_eq_false (by omega : ¬ d.move.stamp.count ≤ settledOf n k x), Bool.and_false]; exact Bool.false_ne_true)]
        rw [ew, List.length_nil, Nat.add_zero] at hi2
        refine iteT ⟨_, rfl, ?_⟩
        have := q H' (s1.trans s2)
        rw [hi2] at this
        exact this
      · refine ⟨_, rfl, a, dx, _, rfl, s2 _ _ (s1 _ _ hA), sg_none (by decide +kernel), _, rfl, a, _, d, n, k, x, rfl, hS.keepA (s1.trans s2), dk, hv', dk.desk d (List.mem_of_getElem? hdi), fun H3 s3 => ⟨_, rfl, iteNB (fun hb => ?_) (fun hb => ?_)⟩⟩
        · have ew : ((x.kept.drop i).takeWhile fun d => allHaveOf n k x d && decide (d.move.stamp.count ≤ settledOf n k x)) = [] := by
            rw [ed, List.takeWhile_cons, if_neg (by rw [hb, Bool.false_and]; exact Bool.false_ne_true)]
          rw [ew, List.length_nil, Nat.add_zero] at hi2
          refine ⟨_, rfl, ?_⟩
          have := q H3 ((s1.trans s2).trans s3)
          rw [hi2] at this
          exact this
        · refine ⟨_, rfl, _, _, rfl, rfl, s2.trans s3, some (.ref m), ?_, ?_⟩
          · rfl
          · rw [hi2, ed, List.takeWhile_cons, if_pos (by rw [hb, decide_eq_true (by omega : d.move.stamp.count ≤ settledOf n k x)]; rfl), List.length_cons]
            omega
    · rintro σ H' ⟨s2, o, rfl, hi2⟩
      rw [hms.length, List.drop_length, List.takeWhile_nil, List.length_nil, Nat.add_zero] at hi2
      refine ⟨_, rfl, ?_⟩
      have := q H' (s1.trans s2)
      rw [hi2, ← hms.length] at this
      exact this
end
end Bt
namespace Bt
open PySem PySem.Spec PyProof.Rows L2
open Sq33 (Deed Desk House Letter Counts at_ most enter)

def mkDeed (q : Desk) (k id x u v : Nat) : Deed := ⟨at_ q.has k + 1, ⟨id, ⟨q.clock + 1, k⟩, x, u, v⟩⟩
theorem newDeed_is (h : House) (k x u v : Nat) : newDeed h k x u v = mkDeed (h.desk k) k h.all.length x u v := rfl
/-! ## the promises -/
def spMake (C : Addr) : Sp := fun vs H Q _ => ∃ (a : Addr) (n k id x u v : Nat) (q : Desk), vs = [.ref a, vN x, vN u, vN v] ∧ SiteAt C H a k q ∧ DkOk n k q ∧ MvOk (mkDeed q k id x u v) ∧ (∀ e ∈ q.kept, stp (mkDeed q k id x u v) ≠ stp e) ∧
  ∀ H' p, SiteAt C H' a k (movedDesk q k (mkDeed q k id x u v)) → But a H H' → H' p = some (.lst [vN (at_ q.has k + 1), vN (q.clock + 1), vN (Sq28.outcome q.tree (mkDeed q k id x u v).move)]) → Q (.ref p) H'
def spMessage (C : Addr) : Sp := fun vs H Q _ => ∃ (a : Addr) (n k j : Nat) (x : Desk), vs = [.ref a, vN j] ∧ SiteAt C H a k x ∧ DkOk n k x ∧ j < n ∧
  ∀ H' p, Same H H' → LtAt H' (.ref p) ⟨k, j, x.has, x.clock, lacksOf k j x⟩ → (∃ xs, H' p = some (.tup xs)) → Q (.ref p) H'
def addedOf (x : Desk) (m : Letter) : List Deed := m.deeds.filter fun d => !x.was d
def spTake (C : Addr) : Sp := fun vs H Q _ => ∃ (a : Addr) (v : V) (n k : Nat) (x : Desk) (m : Letter), vs = [.ref a, v] ∧ SiteAt C H a k x ∧ DkOk n k x ∧ LtAt H v m ∧ m.from_ < n ∧ m.has.length = n ∧ (∀ d ∈ m.deeds, d.desk < n) ∧ m.deeds.length ≤ 80 ∧
  (addedOf x m).Pairwise (fun d e => stp d ≠ stp e) ∧ (∀ d ∈ addedOf x m, ∀ e ∈ x.kept, stp d ≠ stp e) ∧
  ∀ H', SiteAt C H' a k (x.gets m) → But a H H' → Q (vN (addedOf x m).length) H'
def spCompact (C : Addr) : Sp := fun vs H Q _ => ∃ (a : Addr) (n k : Nat) (x : Desk), vs = [.ref a] ∧ SiteAt C H a k x ∧ DkOk n k x ∧
  ∀ H' p, SiteAt C H' a k (x.forgets (ripeOf n k x)) → But a H H' → H' p = some (.lst [vN (ripeOf n k x).length, vN (x.gone + (ripeOf n k x).length)]) → Q (.ref p) H'

theorem ct_at {H : Hp} {c : Addr} {ns : List Nat} (h : CtAt H c ns) {i : Nat} (hi : i < ns.length) : atI (ns.map vN) (i : Int) = some (vN (at_ ns i)) := at_map rfl (at_get hi)
theorem ripe_take (n k : Nat) (x : Desk) : x.kept.take (ripeOf n k x).length = ripeOf n k x := by
  obtain ⟨r, hr⟩ := List.takeWhile_prefix (l := x.kept) (fun d => allHaveOf n k x d && decide (d.move.stamp.count ≤ settledOf n k x))
  have e : x.kept = ripeOf n k x ++ r := hr.symm
  generalize ripeOf n k x = l at e ⊢
  rw [e, List.take_left]

section
variable {P : Program} {w : World} {K : PySem.W.Frag} {mg : Str → Option Value} {base : Heap} {C : Addr}

theorem sc_make : FnScope ["self", "node", "parent", "label", "counts", "move", "outcome"] ["self", "node", "parent", "label"] (defScope (meth 7)) := ⟨rfl, rfl, rfl, by decide +kernel, rfl, by decide +kernel, by decide +kernel⟩
theorem ok_make (D : MethAt K C "make_move" "Site.make_move" (meth 7) ["self", "node", "parent", "label"]) (T : SiteT K C) (c1 : CalD P w K mg base 1 "with_one_more" ["counts", "replica"] spOneMore) (c2 : CalD P w K mg base 2 "outcome_of" ["tree", "move"] spOutcome)
    (c3 : CalM P w K mg base 5 C "tree_now" ["self"] (spTree C)) (gs : mg "sorted" = none) : CalM P w K mg base 6 C "make_move" ["self", "node", "parent", "label"] (spMake C) := by
  refine D.ok T.cl sc_make (fun vs H Q E h => ?_) (fun f cdv A outer s H vs Q E hr h => ?_)
  · obtain ⟨a, n, k, id, x, u, v, q, rfl, _⟩ := h
    rfl
  · obtain ⟨a, n, k, i0, x, u, v, q, rfl, hS, dk, mo, hne, qq⟩ := h
    obtain ⟨dx, c, l, t, f, r, hA, sd⟩ := id hS
    have nd := sc_make.nd
    refine ⟨_, pss_cons (ps_set (i := 4) nd rfl (Or.inl rfl) (qc c1 hr (by decide) rfl (pa_cons (pe_fld (pv 0) rfl) (pa_cons (pe_fld (pv 0) rfl) pa_nil))))
      (pss_cons (ps_set (i := 5) nd rfl (Or.inl rfl) (pe_tup (pa_cons (pe_op op_add (pe_fld (pv 0) rfl) pe_int) (pa_cons (pe_fld (pv 0) rfl) (pa_cons (pe_ix ix_list (pv 4) (pe_fld (pv 0) rfl) (fun _ _ => rfl)) (pa_cons (pv 1) (pa_cons (pv 2) (pa_cons (pv 3) pa_nil))))))))
      (pss_cons (ps_set (i := 6) nd rfl (Or.inl rfl) (qc c2 hr (by decide) rfl (pa_cons (qm0 c3 hr (by decide) (pv 0)) (pa_cons (pv 5) pa_nil))))
      (pss_cons (ps_fld (pv 0) (pe_op op_add (pe_fld (pv 0) rfl) pe_int) rfl)
      (pss_cons (ps_fld (pv 0) (pv 4) rfl)
      (pss_cons (ps_fld (pv 0) (pe_callB (cr_sortMv hr.units) rfl gs PyProof.Rows.boot_sorted (pa_cons (pe_op op_cat (pe_fld (pv 0) rfl) (pe_lst (pa_cons (pv 5) pa_nil))) pa_nil)) rfl)
      (pss_one (ps_ret (pe_lst (pa_cons (pe_ix ix_list (pv 4) (pe_fld (pv 0) rfl) (fun _ _ => rfl)) (pa_cons (pe_fld (pv 0) rfl) (pa_cons (pv 6) pa_nil))))))))))), ?_⟩
    have hk := dk.me
    have hn6 := dk.hi
    -- counts = with_one_more(self.counts, self.number)
    refine ⟨_, rfl, a, C, dx, _, _, rfl, hA, T.cl, T.n_counts, sg_counts, _, rfl, a, C, dx, _, _, rfl, hA, T.cl, T.n_number, sg_number, ?_⟩
    refine ⟨c, k, q.has, rfl, sd.has, by rw [dk.has]; exact hk, by rw [dk.has]; omega, fun H1 c1 s1 hc1 => ?_⟩
    have hA1 := s1 _ _ hA
    -- move = (..)
    have hlen : k < (q.has.set k (at_ q.has k + 1)).length := by rw [List.length_set, dk.has]; exact hk
    have hat : at_ (q.has.set k (at_ q.has k + 1)) k = at_ q.has k + 1 := by rw [at_set (by rw [dk.has]; exact hk), if_pos rfl]
    refine ⟨_, rfl, a, C, dx, _, _, rfl, hA1, T.cl, T.n_clock, sg_clock, _, _, rfl, rfl, _, rfl, a, C, dx, _, _, rfl, hA1, T.cl, T.n_number, sg_number, _, rfl, _, rfl, a, C, dx, _, _, rfl, hA1, T.cl, T.n_number, sg_number,
      c1, _, _, _, rfl, rfl, .inl (.inl hc1), ct_at hc1 hlen, _, rfl, _, rfl, _, rfl, (by show 6 ≤ sizeLine; decide), fun m nm => ?_⟩
    rw [hat]
    have s2 : Same H1 (upd H1 m (.tup (mvV (mkDeed q k i0 x u v)))) := same_new nm
    have hm2 : upd H1 m (.tup (mvV (mkDeed q k i0 x u v))) m = some (.tup (mvV (mkDeed q k i0 x u v))) := upd_same
    refine show tSeq _ _ _ _ (upd H1 m (.tup (mvV (mkDeed q k i0 x u v)))) from ?_
    generalize upd H1 m (.tup (mvV (mkDeed q k i0 x u v))) = H2 at *
    -- outcome = outcome_of(self.tree_now(), move)
    have hA2 := s2 _ _ hA1
    refine ⟨_, rfl, a, dx, _, rfl, hA2, sg_none (by decide +kernel), a, n, k, q, rfl, hS.keepA (s1.trans s2), dk, fun H3 b s3 hb => ?_⟩
    have wt : WF q.tree := doneAll_wf dk.base dk.mv
    refine ⟨_, rfl, b, _, mkDeed q k i0 x u v, q.tree, rfl, hb, wt, ⟨m, rfl, s3 _ _ hm2⟩, mo, ?_⟩
    have hA3 := s3 _ _ hA2
    have s13 := (s1.trans s2).trans s3
    have sd3 := sd.keep (Keep.of s13)
    have hc3 : CtAt H3 c1 _ := s3 _ _ (s2 _ _ hc1)
    have hm3 := s3 _ _ hm2
    -- self.clock = self.clock + 1
    refine ⟨_, rfl, a, C, dx, _, _, rfl, hA3, T.cl, T.n_clock, sg_clock, _, _, rfl, rfl, _, rfl, a, C, dx, _, rfl, hA3, T.cl, T.n_clock, (by show 8 < 1000; decide), ?_⟩
    rw [show putF "clock" ((fun i j => V.int (i + j)) (q.clock : Int) 1) (siteG k q.clock q.gone c l t f r) = siteG k (q.clock + 1) q.gone c l t f r from sp_clock (n := q.clock + 1)]
    obtain ⟨b4, hA4, k4⟩ := stage (siteG k (q.clock + 1) q.gone c l t f r) (But.of s13) hA3
    have sd4 := sd3.keep k4
    have hc4 := hc3.keep k4
    have hm4 := k4.tup hm3
    generalize upd H3 a (.ins C dx (siteG k (q.clock + 1) q.gone c l t f r)) = H4 at *
    -- self.counts = counts
    refine ⟨_, rfl, _, rfl, a, C, dx, _, rfl, hA4, T.cl, T.n_counts, (by show 8 < 1000; decide), ?_⟩
    rw [sp_counts]
    obtain ⟨b5, hA5, k5⟩ := stage (siteG k (q.clock + 1) q.gone c1 l t f r) b4 hA4
    have sd5 := sd4.keep k5
    have hc5 := hc4.keep k5
    have hm5 := k5.tup hm4
    generalize upd H4 a (.ins C dx (siteG k (q.clock + 1) q.gone c1 l t f r)) = H5 at *
    -- self.log = sorted(self.log + [move])
    obtain ⟨ms, hl, hms⟩ := sd5.log
    refine ⟨_, rfl, a, C, dx, _, _, rfl, hA5, T.cl, T.n_log, sg_log, _, rfl, (by show 1 ≤ sizeLine; decide), fun e1 m1 => ?_⟩
    refine ⟨l, e1, _, _, rfl, rfl, same_new m1 _ _ hl, upd_same, ?_, fun e2 m2 => ?_⟩
    · rw [hms.length]
      have := dk.len
      exact len_le (by show _ + 1 ≤ _; omega)
    · have s6 : Same H5 (upd (upd H5 e1 (.lst [.ref m])) e2 (.lst (ms ++ [.ref m]))) := (same_new m1).trans (same_new m2)
      have hl6 : upd (upd H5 e1 (.lst [.ref m])) e2 (.lst (ms ++ [.ref m])) e2 = some (.lst (ms ++ [.ref m])) := upd_same
      generalize upd (upd H5 e1 (.lst [.ref m])) e2 (.lst (ms ++ [.ref m])) = H6 at *
      have hm6 := s6 _ _ hm5
      refine ⟨e2, _, q.kept ++ [mkDeed q k i0 x u v], rfl, hl6, pr_last (hms.keep (Keep.of s6)) ⟨m, rfl, hm6⟩, by rw [List.length_append]; have := dk.len; show _ + 1 ≤ 1000; omega, fun ys p hys np => ?_⟩
      rw [sort_is (enter_perm hne) (enter_sorted hne dk.kept)] at hys
      have s7 : Same H6 (upd H6 p (.lst ys)) := same_new np
      have hp7 : upd H6 p (.lst ys) p = some (.lst ys) := upd_same
      generalize upd H6 p (.lst ys) = H7 at *
      have s57 := s6.trans s7
      have hA7 := s57 _ _ hA5
      refine ⟨_, rfl, a, C, dx, _, rfl, hA7, T.cl, T.n_log, (by show 8 < 1000; decide), ?_⟩
      rw [sp_log]
      obtain ⟨b8, hA8, k8⟩ := stage (siteG k (q.clock + 1) q.gone c1 p t f r) (b5.trans (But.of s57)) hA7
      have k58 := (Keep.of s57).trans k8
      have hc8 := hc5.keep k58
      have sd8 := sd5.keep k58
      have hl8 : LgAt (upd H7 a (.ins C dx (siteG k (q.clock + 1) q.gone c1 p t f r))) p (enter (mkDeed q k i0 x u v) q.kept) := ⟨ys, k8.lst hp7, hys.keep ((Keep.of s7).trans k8)⟩
      generalize upd H7 a (.ins C dx (siteG k (q.clock + 1) q.gone c1 p t f r)) = H8 at *
      -- return [counts[self.number], self.clock, outcome]
      refine ⟨_, rfl, _, rfl, a, C, dx, _, _, rfl, hA8, T.cl, T.n_number, sg_number, c1, _, _, _, rfl, rfl, .inl (.inl hc8), ct_at hc8 hlen, _, rfl, a, C, dx, _, _, rfl, hA8, T.cl, T.n_clock, sg_clock, _, rfl, (by show 3 ≤ sizeLine; decide), fun z nz => ?_⟩
      rw [hat]
      have s9 : Same H8 (upd H8 z (.lst [vN (at_ q.has k + 1), vN (q.clock + 1), vN (Sq28.outcome q.tree (mkDeed q k i0 x u v).move)])) := same_new nz
      refine qq _ z ⟨dx, c1, p, t, f, r, s9 _ _ hA8, ?_⟩ (b8.trans (But.of s9)) upd_same
      have k9 := Keep.of s9
      exact ⟨hc8.keep k9, hl8.keep k9, sd8.snap.keep k9, sd8.conf.keep k9, sd8.rep.keep k9⟩

theorem sc_message : FnScope ["self", "receiver", "moves"] ["self", "receiver"] (defScope (meth 8)) := ⟨rfl, rfl, rfl, by decide +kernel, rfl, by decide +kernel, by decide +kernel⟩
theorem ok_message (D : MethAt K C "message_for" "Site.message_for" (meth 8) ["self", "receiver"]) (T : SiteT K C) (c1 : CalD P w K mg base 2 "moves_beyond" ["moves", "counts"] spBeyond) (c2 : CalM P w K mg base 1 C "confirmed_for" ["self", "other"] (spConf C)) :
    CalM P w K mg base 3 C "message_for" ["self", "receiver"] (spMessage C) := by
  refine D.ok T.cl sc_message (fun vs H Q E h => ?_) (fun f cdv A outer s H vs Q E hr h => ?_)
  · obtain ⟨a, n, k, j, x, rfl, _⟩ := h
    rfl
  · obtain ⟨a, n, k, j, x, rfl, hS, dk, hj, q⟩ := h
    obtain ⟨dx, c, l, t, f, r, hA, sd⟩ := id hS
    have nd := sc_message.nd
    refine ⟨_, pss_cons (ps_set (i := 2) nd rfl (Or.inl rfl) (qc c1 hr (by decide) rfl (pa_cons (pe_fld (pv 0) rfl) (pa_cons (qm c2 hr (by decide) (pv 0) (pa_cons (pv 1) pa_nil)) pa_nil))))
      (pss_one (ps_ret (pe_tup (pa_cons (pe_fld (pv 0) rfl) (pa_cons (pv 1) (pa_cons (pe_fld (pv 0) rfl) (pa_cons (pe_fld (pv 0) rfl) (pa_cons (pv 2) pa_nil)))))))), ?_⟩
    refine ⟨_, rfl, a, C, dx, _, _, rfl, hA, T.cl, T.n_log, sg_log, _, rfl, a, dx, _, rfl, hA, sg_none (by decide +kernel), _, rfl, a, n, k, j, x, rfl, hS, dk, hj, fun b hb => ?_⟩
    refine ⟨l, b, x.kept, _, rfl, sd.log, hb, fun d hd => by rw [dk.sureLen hj]; exact dk.desk d hd, by have := dk.len; omega, fun H1 p s1 hp => ?_⟩
    have hA1 := s1 _ _ hA
    refine ⟨_, rfl, a, C, dx, _, _, rfl, hA1, T.cl, T.n_number, sg_number, _, rfl, _, rfl, a, C, dx, _, _, rfl, hA1, T.cl, T.n_counts, sg_counts, _, rfl, a, C, dx, _, _, rfl, hA1, T.cl, T.n_clock, sg_clock, _, rfl, (by show 5 ≤ sizeLine; decide), fun z nz => ?_⟩
    have s2 := same_new (o := .tup [vN k, vN j, .ref c, vN x.clock, .ref p]) nz
    refine q _ z (s1.trans s2) ⟨z, c, p, rfl, upd_same, sd.has.keep (Keep.of (s1.trans s2)), hp.keep (Keep.of s2)⟩ ⟨_, upd_same⟩

theorem sc_compact : FnScope ["self", "many"] ["self"] (defScope (meth 10)) := ⟨rfl, rfl, rfl, by decide +kernel, rfl, by decide +kernel, by decide +kernel⟩
theorem ok_compact (D : MethAt K C "compact_log" "Site.compact_log" (meth 10) ["self"]) (T : SiteT K C) (c1 : CalD P w K mg base 4 "all_applied" ["tree", "moves"] spAll) (c2 : CalM P w K mg base 3 C "many_compactable" ["self"] (spMany C)) :
    CalM P w K mg base 5 C "compact_log" ["self"] (spCompact C) := by
  refine D.ok T.cl sc_compact (fun vs H Q E h => ?_) (fun f cdv A outer s H vs Q E hr h => ?_)
  · obtain ⟨a, n, k, x, rfl, _⟩ := h
    rfl
  · obtain ⟨a, n, k, x, rfl, hS, dk, q⟩ := h
    obtain ⟨dx, c, l, t, f, r, hA, sd⟩ := id hS
    have nd := sc_compact.nd
    refine ⟨_, pss_cons (ps_set (i := 1) nd rfl (Or.inl rfl) (qm0 c2 hr (by decide) (pv 0)))
      (pss_cons (ps_fld (pv 0) (qc c1 hr (by decide) rfl (pa_cons (pe_fld (pv 0) rfl) (pa_cons (pe_slice sl_list (pe_fld (pv 0) rfl) po_none (po_some (pv 1))) pa_nil))) rfl)
      (pss_cons (ps_fld (pv 0) (pe_slice sl_list (pe_fld (pv 0) rfl) (po_some (pv 1)) po_none) rfl)
      (pss_cons (ps_fld (pv 0) (pe_op op_add (pe_fld (pv 0) rfl) (pv 1)) rfl)
      (pss_one (ps_ret (pe_lst (pa_cons (pv 1) (pa_cons (pe_fld (pv 0) rfl) pa_nil)))))))), ?_⟩
    refine ⟨_, rfl, a, dx, _, rfl, hA, sg_none (by decide +kernel), a, n, k, x, rfl, hS, dk, fun H1 s1 => ?_⟩
    have hA1 := s1 _ _ hA
    have sd1 := sd.keep (Keep.of s1)
    obtain ⟨ms, hl, hms⟩ := sd1.log
    have rt := ripe_take n k x
    generalize hL : ripeOf n k x = L at *
    -- self.snapshot = all_applied(self.snapshot, self.log[:many])
    refine ⟨_, rfl, a, C, dx, _, _, rfl, hA1, T.cl, T.n_snapshot, sg_snapshot, _, rfl, a, C, dx, _, _, rfl, hA1, T.cl, T.n_log, sg_log, _, rfl, _, rfl, l, ms, rfl, .inl (.inl hl), fun e1 m1 => ?_⟩
    rw [cut_to]
    have s2 : Same H1 (upd H1 e1 (.lst (ms.take L.length))) := same_new m1
    have hl2 : LgAt (upd H1 e1 (.lst (ms.take L.length))) e1 L := ⟨_, upd_same, by have h9 := pr_take L.length (hms.keep (Keep.of s2)); rw [rt] at h9; exact h9⟩
    generalize upd H1 e1 (.lst (ms.take L.length)) = H2 at *
    have hLs : ∀ d ∈ L, d ∈ x.kept := fun d hd => by
      rw [← rt] at hd
      exact List.mem_of_mem_take hd
    refine ⟨t, e1, L, x.base, rfl, sd1.snap.keep (Keep.of s2), dk.base, hl2, fun d hd => dk.mv d (hLs d hd), fun H3 t3 s3 ht3 => ?_⟩
    have s13 := s2.trans s3
    have hA3 := s13 _ _ hA1
    refine ⟨_, rfl, a, C, dx, _, rfl, hA3, T.cl, T.n_snapshot, (by show 8 < 1000; decide), ?_⟩
    rw [sp_snapshot]
    obtain ⟨b4, hA4, k4⟩ := stage (siteG k x.clock x.gone c l t3 f r) (But.of (s1.trans s13)) hA3
    have k14 := (Keep.of s13).trans k4
    have ht4 := ht3.keep k4
    have sd4 := sd1.keep k14
    have hl4 := k14.lst hl
    have hms4 := hms.keep k14
    generalize upd H3 a (.ins C dx (siteG k x.clock x.gone c l t3 f r)) = H4 at *
    -- self.log = self.log[many:]
    refine ⟨_, rfl, a, C, dx, _, _, rfl, hA4, T.cl, T.n_log, sg_log, _, rfl, _, rfl, l, ms, rfl, .inl (.inl hl4), fun e2 m2 => ?_⟩
    rw [cut_from]
    have s5 : Same H4 (upd H4 e2 (.lst (ms.drop L.length))) := same_new m2
    have hl5 : LgAt (upd H4 e2 (.lst (ms.drop L.length))) e2 (x.kept.drop L.length) := ⟨_, upd_same, pr_drop _ (hms4.keep (Keep.of s5))⟩
    generalize upd H4 e2 (.lst (ms.drop L.length)) = H5 at *
    have hA5 := s5 _ _ hA4
    refine ⟨_, rfl, a, C, dx, _, rfl, hA5, T.cl, T.n_log, (by show 8 < 1000; decide), ?_⟩
    rw [sp_log]
    obtain ⟨b6, hA6, k6⟩ := stage (siteG k x.clock x.gone c e2 t3 f r) (b4.trans (But.of s5)) hA5
    have k46 := (Keep.of s5).trans k6
    have ht6 := ht4.keep k46
    have sd6 := sd4.keep k46
    have hl6 := hl5.keep k6
    generalize upd H5 a (.ins C dx (siteG k x.clock x.gone c e2 t3 f r)) = H6 at *
    -- self.many_compacted = self.many_compacted + many
    refine ⟨_, rfl, a, C, dx, _, _, rfl, hA6, T.cl, T.n_many_compacted, sg_many_compacted, _, rfl, _, _, rfl, rfl, _, rfl, a, C, dx, _, rfl, hA6, T.cl, T.n_many_compacted, (by show 8 < 1000; decide), ?_⟩
    rw [show putF "many_compacted" ((fun i j => V.int (i + j)) (x.gone : Int) (L.length : Int)) (siteG k x.clock x.gone c e2 t3 f r) = siteG k x.clock (x.gone + L.length) c e2 t3 f r from sp_many_compacted (n := x.gone + L.length)]
    obtain ⟨b7, hA7, k7⟩ := stage (siteG k x.clock (x.gone + L.length) c e2 t3 f r) b6 hA6
    have ht7 := ht6.keep k7
    have sd7 := sd6.keep k7
    have hl7 := hl6.keep k7
    generalize upd H6 a (.ins C dx (siteG k x.clock (x.gone + L.length) c e2 t3 f r)) = H7 at *
    refine ⟨_, rfl, _, rfl, a, C, dx, _, _, rfl, hA7, T.cl, T.n_many_compacted, sg_many_compacted, (by show 2 ≤ sizeLine; decide), fun z nz => ?_⟩
    have s8 := same_new (o := .lst [vN L.length, vN (x.gone + L.length)]) nz
    have k8 := Keep.of s8
    exact q _ z ⟨dx, c, e2, t3, f, r, s8 _ _ hA7, ⟨sd7.has.keep k8, hl7.keep k8, ht7.keep k8, sd7.conf.keep k8, sd7.rep.keep k8⟩⟩ (b7.trans (But.of s8)) upd_same
end
end Bt
namespace Bt
open PySem PySem.Spec PyProof.Rows L2
open Sq33 (Deed Desk House Letter Counts at_ most enter)

theorem max_int (i j : Nat) : (if (j : Int) > (i : Int) then (j : Int) else (i : Int)) = ((max i j : Nat) : Int) := by
  split <;> omega
theorem splice {vs : List V} {i : Nat} {y : V} (h : i < vs.length) : cutV vs none (some (i : Int)) ++ [y] ++ cutV vs (some ((i : Int) + 1)) none = vs.set i y := by
  have e : ((i : Int) + 1) = ((i + 1 : Nat) : Int) := by omega
  rw [cut_to, e, cut_from, set_split _ _ _ h]

section
variable {P : Program} {w : World} {K : PySem.W.Frag} {mg : Str → Option Value} {base : Heap} {C : Addr}

theorem sc_take : FnScope ["self", "message", "sender", "receiver", "counts", "clock", "moves", "added", "confirmed", "reported"] ["self", "message"] (defScope (meth 9)) := ⟨rfl, rfl, rfl, by decide +kernel, rfl, by decide +kernel, by decide +kernel⟩
theorem ok_take (D : MethAt K C "take_message" "Site.take_message" (meth 9) ["self", "message"]) (T : SiteT K C) (c1 : CalD P w K mg base 2 "moves_beyond" ["moves", "counts"] spBeyond) (c2 : CalD P w K mg base 1 "greater_counts" ["one", "other"] spGreater)
    (gs : mg "sorted" = none) (gm : mg "max" = none) (gl : mg "len" = none) : CalM P w K mg base 3 C "take_message" ["self", "message"] (spTake C) := by
  refine D.ok T.cl sc_take (fun vs H Q E h => ?_) (fun f cdv A outer s H vs Q E hr h => ?_)
  · obtain ⟨a, v, n, k, x, m, rfl, _⟩ := h
    rfl
  · obtain ⟨a, v, n, k, x, m, rfl, hS, dk, hv, hfr, hhas, hdesk, hml, hA1, hA2, q⟩ := h
    obtain ⟨dx, c, l, t, f, r, hA, sd⟩ := id hS
    obtain ⟨ma, mc, mml, rfl, hma, hmc, hmm⟩ := id hv
    have nd := sc_take.nd
    have hn6 := dk.hi
    have hk := dk.me
    refine ⟨_, pss_cons (ps_asg (pv 1) (pg_tup rfl (pgs_cons (pg_name (i := 2) nd rfl (Or.inl rfl)) (pgs_cons (pg_name (i := 3) nd rfl (Or.inl rfl)) (pgs_cons (pg_name (i := 4) nd rfl (Or.inl rfl)) (pgs_cons (pg_name (i := 5) nd rfl (Or.inl rfl)) (pgs_cons (pg_name (i := 6) nd rfl (Or.inl rfl)) pgs_nil)))))))
      (pss_cons (ps_set (i := 7) nd rfl (Or.inl rfl) (qc c1 hr (by decide) rfl (pa_cons (pv 6) (pa_cons (pe_fld (pv 0) rfl) pa_nil))))
      (pss_cons (ps_fld (pv 0) (pe_callB (cr_sortMv hr.units) rfl gs PyProof.Rows.boot_sorted (pa_cons (pe_op op_cat (pe_fld (pv 0) rfl) (pv 7)) pa_nil)) rfl)
      (pss_cons (ps_fld (pv 0) (qc c2 hr (by decide) rfl (pa_cons (pe_fld (pv 0) rfl) (pa_cons (pv 4) pa_nil))) rfl)
      (pss_cons (ps_fld (pv 0) (pe_callB (call_max2 rfl) rfl gm PyProof.Rows.boot_max (pa_cons (pe_fld (pv 0) rfl) (pa_cons (pv 5) pa_nil))) rfl)
      (pss_cons (ps_set (i := 8) nd rfl (Or.inl rfl) (qc c2 hr (by decide) rfl (pa_cons (pe_ix ix_list (pe_fld (pv 0) rfl) (pv 2) (fun _ _ => rfl)) (pa_cons (pv 4) pa_nil))))
      (pss_cons (ps_fld (pv 0) (pe_op op_cat (pe_op op_cat (pe_slice sl_list (pe_fld (pv 0) rfl) po_none (po_some (pv 2))) (pe_lst (pa_cons (pv 8) pa_nil))) (pe_slice sl_list (pe_fld (pv 0) rfl) (po_some (pe_op op_add (pv 2) pe_int)) po_none)) rfl)
      (pss_cons (ps_set (i := 9) nd rfl (Or.inl rfl) (pe_callB (call_max2 rfl) rfl gm PyProof.Rows.boot_max (pa_cons (pe_ix ix_list (pe_fld (pv 0) rfl) (pv 2) (fun _ _ => rfl)) (pa_cons (pv 5) pa_nil))))
      (pss_cons (ps_fld (pv 0) (pe_op op_cat (pe_op op_cat (pe_slice sl_list (pe_fld (pv 0) rfl) po_none (po_some (pv 2))) (pe_lst (pa_cons (pv 9) pa_nil))) (pe_slice sl_list (pe_fld (pv 0) rfl) (po_some (pe_op op_add (pv 2) pe_int)) po_none)) rfl)
      (pss_one (ps_ret (pe_callB call_len_seq rfl gl PySem.boot_len (pa_cons (pv 7) pa_nil)))))))))))), ?_⟩
    -- sender, receiver, counts, clock, moves = message
    refine ⟨_, rfl, ma, _, rfl, .inl (.inl hma), rfl, _, _, rfl, _, _, rfl, _, _, rfl, _, _, rfl, _, _, rfl, rfl, ?_⟩
    -- added = moves_beyond(moves, self.counts)
    refine ⟨_, rfl, _, rfl, a, C, dx, _, _, rfl, hA, T.cl, T.n_counts, sg_counts, mml, c, m.deeds, x.has, rfl, hmm, sd.has, fun d hd => by rw [dk.has]; exact hdesk d hd, by omega, fun H1 ad s1 had => ?_⟩
    have had : LgAt H1 ad (addedOf x m) := had
    have hal : (addedOf x m).length ≤ 80 := Nat.le_trans (List.length_filter_le _ _) hml
    have hAt1 := s1 _ _ hA
    have sd1 := sd.keep (Keep.of s1)
    have mc1 := hmc.keep (Keep.of s1)
    -- self.log = sorted(self.log + added)
    obtain ⟨ms, hl, hms⟩ := sd1.log
    obtain ⟨as_, hal1, has⟩ := id had
    refine ⟨_, rfl, a, C, dx, _, _, rfl, hAt1, T.cl, T.n_log, sg_log, _, rfl, l, ad, _, _, rfl, rfl, hl, hal1, ?_, fun e2 m2 => ?_⟩
    · rw [hms.length, has.length]
      have := dk.len
      exact len_le (by omega)
    have s2 : Same H1 (upd H1 e2 (.lst (ms ++ as_))) := same_new m2
    have hl2 : upd H1 e2 (.lst (ms ++ as_)) e2 = some (.lst (ms ++ as_)) := upd_same
    generalize upd H1 e2 (.lst (ms ++ as_)) = H2 at *
    have EN := enters_ok hA1 hA2 dk.kept
    refine ⟨e2, _, x.kept ++ addedOf x m, rfl, hl2, pr_app (hms.keep (Keep.of s2)) (has.keep (Keep.of s2)), by rw [List.length_append]; have := dk.len; omega, fun ys p hys np => ?_⟩
    rw [sort_is EN.1 EN.2] at hys
    have s3 : Same H2 (upd H2 p (.lst ys)) := same_new np
    have hp3 : upd H2 p (.lst ys) p = some (.lst ys) := upd_same
    generalize upd H2 p (.lst ys) = H3 at *
    have s13 := s2.trans s3
    have hAt3 := s13 _ _ hAt1
    refine ⟨_, rfl, a, C, dx, _, rfl, hAt3, T.cl, T.n_log, (by show 8 < 1000; decide), ?_⟩
    rw [sp_log]
    obtain ⟨b4, hA4, k4⟩ := stage (siteG k x.clock x.gone c p t f r) (But.of (s1.trans s13)) hAt3
    have k14 := (Keep.of s13).trans k4
    have sd4 := sd1.keep k14
    have mc4 := mc1.keep k14
    have had4 := had.keep k14
    have hl4 : LgAt (upd H3 a (.ins C dx (siteG k x.clock x.gone c p t f r))) p (enters (addedOf x m) x.kept) := ⟨ys, k4.lst hp3, hys.keep ((Keep.of s3).trans k4)⟩
    generalize upd H3 a (.ins C dx (siteG k x.clock x.gone c p t f r)) = H4 at *
    -- self.counts = greater_counts(self.counts, counts)
    refine ⟨_, rfl, a, C, dx, _, _, rfl, hA4, T.cl, T.n_counts, sg_counts, _, rfl, c, mc, x.has, m.has, rfl, sd4.has, mc4, by rw [dk.has, hhas], by rw [dk.has]; omega, fun H5 c5 s5 hc5 => ?_⟩
    have hAt5 := s5 _ _ hA4
    refine ⟨_, rfl, a, C, dx, _, rfl, hAt5, T.cl, T.n_counts, (by show 8 < 1000; decide), ?_⟩
    rw [sp_counts]
    obtain ⟨b6, hA6, k6⟩ := stage (siteG k x.clock x.gone c5 p t f r) (b4.trans (But.of s5)) hAt5
    have k46 := (Keep.of s5).trans k6
    have sd6 := sd4.keep k46
    have mc6 := mc4.keep k46
    have had6 := had4.keep k46
    have hl6 := hl4.keep k46
    have hc6 := hc5.keep k6
    generalize upd H5 a (.ins C dx (siteG k x.clock x.gone c5 p t f r)) = H6 at *
    -- self.clock = max(self.clock, clock)
    refine ⟨_, rfl, a, C, dx, _, _, rfl, hA6, T.cl, T.n_clock, sg_clock, _, rfl, _, _, rfl, _, rfl, a, C, dx, _, rfl, hA6, T.cl, T.n_clock, (by show 8 < 1000; decide), ?_⟩
    rw [max_int, sp_clock]
    obtain ⟨b7, hA7, k7⟩ := stage (siteG k (max x.clock m.clock) x.gone c5 p t f r) b6 hA6
    have sd7 := sd6.keep k7
    have mc7 := mc6.keep k7
    have had7 := had6.keep k7
    have hl7 := hl6.keep k7
    have hc7 := hc6.keep k7
    generalize upd H6 a (.ins C dx (siteG k (max x.clock m.clock) x.gone c5 p t f r)) = H7 at *
    -- confirmed = greater_counts(self.own_confirmed[sender], counts)
    obtain ⟨fs, hf, hfs⟩ := id sd7.conf
    have hsl : m.from_ < x.sure.length := by rw [dk.sureL]; exact hfr
    obtain ⟨u, hu, b, rfl, hb⟩ := pr_get hfs (List.getElem?_eq_getElem hsl)
    have hsub : (x.sure[m.from_]).length = n := dk.sureE _ (List.getElem_mem hsl)
    refine ⟨_, rfl, a, C, dx, _, _, rfl, hA7, T.cl, T.n_own_confirmed, sg_own_confirmed, _, rfl, f, _, _, _, rfl, rfl, .inl (.inl hf), at_of rfl hu, _, rfl, b, mc, _, m.has, rfl, hb, mc7, by rw [hsub, hhas], by rw [hsub]; omega, fun H8 cf s8 hcf => ?_⟩
    have hAt8 := s8 _ _ hA7
    have hf8 := s8 _ _ hf
    have hfsl : fs.length = x.sure.length := hfs.length
    -- self.own_confirmed = ..
    refine ⟨_, rfl, a, C, dx, _, _, rfl, hAt8, T.cl, T.n_own_confirmed, sg_own_confirmed, _, rfl, _, rfl, f, fs, rfl, .inl (.inl hf8), fun i1 m1 => ⟨_, rfl, (by show 1 ≤ sizeLine; decide), fun i2 m2 => ?_⟩⟩
    have g2 : Same H8 (upd (upd H8 i1 (.lst (cutV fs none (some (m.from_ : Int))))) i2 (.lst [.ref cf])) := (same_new m1).trans (same_new m2)
    have h21 : upd (upd H8 i1 (.lst (cutV fs none (some (m.from_ : Int))))) i2 (.lst [.ref cf]) i1 = some (.lst (cutV fs none (some (m.from_ : Int)))) := same_new m2 _ _ upd_same
    have h22 : upd (upd H8 i1 (.lst (cutV fs none (some (m.from_ : Int))))) i2 (.lst [.ref cf]) i2 = some (.lst [.ref cf]) := upd_same
    refine ⟨i1, i2, _, _, rfl, rfl, h21, h22, ?_, fun i3 m3 => ?_⟩
    · have := cutV_length fs none (some (m.from_ : Int))
      rw [hfsl, dk.sureL] at this
      exact len_le (by show _ + 1 ≤ _; omega)
    generalize upd (upd H8 i1 (.lst (cutV fs none (some (m.from_ : Int))))) i2 (.lst [.ref cf]) = H9 at *
    have g3 : Same H9 (upd H9 i3 (.lst (cutV fs none (some (m.from_ : Int)) ++ [.ref cf]))) := same_new m3
    have h33 : upd H9 i3 (.lst (cutV fs none (some (m.from_ : Int)) ++ [.ref cf])) i3 = some (.lst (cutV fs none (some (m.from_ : Int)) ++ [.ref cf])) := upd_same
    generalize upd H9 i3 (.lst (cutV fs none (some (m.from_ : Int)) ++ [.ref cf])) = H10 at *
    have g810 := g2.trans g3
    refine ⟨_, rfl, a, C, dx, _, _, rfl, g810 _ _ hAt8, T.cl, T.n_own_confirmed, sg_own_confirmed, _, rfl, _, _, rfl, rfl, _, rfl, f, fs, rfl, .inl (.inl (g810 _ _ hf8)), fun i4 m4 => ?_⟩
    have h43 := same_new (o := .lst (cutV fs (some ((m.from_ : Int) + 1)) none)) m4 _ _ h33
    refine ⟨i3, i4, _, _, rfl, rfl, h43, upd_same, ?_, fun f2 m5 => ?_⟩
    · have h1 := cutV_length fs none (some (m.from_ : Int))
      have h2 := cutV_length fs (some ((m.from_ : Int) + 1)) none
      rw [hfsl, dk.sureL] at h1 h2
      rw [List.length_append]
      exact len_le (by show _ + 1 + (cutV fs (some ((m.from_ : Int) + 1)) none).length ≤ _; omega)
    rw [show cutV fs none (some (m.from_ : Int)) ++ [V.ref cf] ++ cutV fs (some ((fun i j => V.int (i + j)) (m.from_ : Int) 1 |> fun z => match z with | .int q => q | _ => 0)) none = fs.set m.from_ (.ref cf) from splice (by omega)]
    have g5 : Same H10 (upd (upd H10 i4 (.lst (cutV fs (some ((m.from_ : Int) + 1)) none))) f2 (.lst (fs.set m.from_ (.ref cf)))) := (same_new m4).trans (same_new m5)
    have hf11 : upd (upd H10 i4 (.lst (cutV fs (some ((m.from_ : Int) + 1)) none))) f2 (.lst (fs.set m.from_ (.ref cf))) f2 = some (.lst (fs.set m.from_ (.ref cf))) := upd_same
    have hfs11 : CfAt (upd (upd H10 i4 (.lst (cutV fs (some ((m.from_ : Int) + 1)) none))) f2 (.lst (fs.set m.from_ (.ref cf)))) f2 (x.sure.set m.from_ (most x.sure[m.from_] m.has)) := by
      refine ⟨_, hf11, pr_set _ (Paired.mapP hfs ?_) ⟨cf, rfl, hcf.keep (Keep.of (g810.trans g5))⟩⟩
      rintro v c ⟨b', rfl, hb'⟩
      exact ⟨b', rfl, hb'.keep (Keep.of (s8.trans (g810.trans g5)))⟩
    have g811 := g810.trans g5
    refine ⟨_, rfl, a, C, dx, _, rfl, g811 _ _ hAt8, T.cl, T.n_own_confirmed, (by show 8 < 1000; decide), ?_⟩
    rw [sp_own_confirmed]
    refine show tSeq _ _ _ _ (upd (upd (upd H10 i4 (.lst (cutV fs (some ((m.from_ : Int) + 1)) none))) f2 (.lst (fs.set m.from_ (.ref cf)))) a (.ins C dx (siteG k (max x.clock m.clock) x.gone c5 p t f2 r))) from ?_
    generalize upd (upd H10 i4 (.lst (cutV fs (some ((m.from_ : Int) + 1)) none))) f2 (.lst (fs.set m.from_ (.ref cf))) = H11 at *
    obtain ⟨b12, hA12, k12⟩ := stage (siteG k (max x.clock m.clock) x.gone c5 p t f2 r) ((b7.trans (But.of s8)).trans (But.of g811)) (g811 _ _ hAt8)
    have k712 := (Keep.of (s8.trans g811)).trans k12
    have sd12 := sd7.keep k712
    have had12 := had7.keep k712
    have hl12 := hl7.keep k712
    have hc12 := hc7.keep k712
    have hf12 := hfs11.keep k12
    generalize upd H11 a (.ins C dx (siteG k (max x.clock m.clock) x.gone c5 p t f2 r)) = H12 at *
    clear hfs11 hf11 g5 h43 h33 g3 h22 h21 g2 m1 m2 m3 m4 m5 np
    -- reported = max(self.own_reported[sender], clock)
    have hhl : m.from_ < x.heard.length := by rw [dk.heard]; exact hfr
    have hrep := sd12.rep
    refine ⟨_, rfl, a, C, dx, _, _, rfl, hA12, T.cl, T.n_own_reported, sg_own_reported, _, rfl, r, _, _, _, rfl, rfl, .inl (.inl hrep), ct_at hrep hhl, _, rfl, _, _, rfl, ?_⟩
    rw [max_int]
    -- self.own_reported = ..
    have hrl : (x.heard.map vN).length = n := by rw [List.length_map, dk.heard]
    refine ⟨_, rfl, a, C, dx, _, _, rfl, hA12, T.cl, T.n_own_reported, sg_own_reported, _, rfl, _, rfl, r, x.heard.map vN, rfl, .inl (.inl hrep), fun i1 m1 => ⟨_, rfl, (by show 1 ≤ sizeLine; decide), fun i2 m2 => ?_⟩⟩
    have g2 : Same H12 (upd (upd H12 i1 (.lst (cutV (x.heard.map vN) none (some (m.from_ : Int))))) i2 (.lst [vN (max (at_ x.heard m.from_) m.clock)])) := (same_new m1).trans (same_new m2)
    have h21 : upd (upd H12 i1 (.lst (cutV (x.heard.map vN) none (some (m.from_ : Int))))) i2 (.lst [vN (max (at_ x.heard m.from_) m.clock)]) i1 = some (.lst (cutV (x.heard.map vN) none (some (m.from_ : Int)))) := same_new m2 _ _ upd_same
    have h22 : upd (upd H12 i1 (.lst (cutV (x.heard.map vN) none (some (m.from_ : Int))))) i2 (.lst [vN (max (at_ x.heard m.from_) m.clock)]) i2 = some (.lst [vN (max (at_ x.heard m.from_) m.clock)]) := upd_same
    refine ⟨i1, i2, _, _, rfl, rfl, h21, h22, ?_, fun i3 m3 => ?_⟩
    · have := cutV_length (x.heard.map vN) none (some (m.from_ : Int))
      rw [hrl] at this
      exact len_le (by show _ + 1 ≤ _; omega)
    generalize upd (upd H12 i1 (.lst (cutV (x.heard.map vN) none (some (m.from_ : Int))))) i2 (.lst [vN (max (at_ x.heard m.from_) m.clock)]) = H13 at *
    have g3 : Same H13 (upd H13 i3 (.lst (cutV (x.heard.map vN) none (some (m.from_ : Int)) ++ [vN (max (at_ x.heard m.from_) m.clock)]))) := same_new m3
    have h33 : upd H13 i3 (.lst (cutV (x.heard.map vN) none (some (m.from_ : Int)) ++ [vN (max (at_ x.heard m.from_) m.clock)])) i3 = some (.lst (cutV (x.heard.map vN) none (some (m.from_ : Int)) ++ [vN (max (at_ x.heard m.from_) m.clock)])) := upd_same
    generalize upd H13 i3 (.lst (cutV (x.heard.map vN) none (some (m.from_ : Int)) ++ [vN (max (at_ x.heard m.from_) m.clock)])) = H14 at *
    have g1214 := g2.trans g3
    have hrep14 : H14 r = some (.lst (x.heard.map vN)) := g1214 _ _ hrep
    refine ⟨_, rfl, a, C, dx, _, _, rfl, g1214 _ _ hA12, T.cl, T.n_own_reported, sg_own_reported, _, rfl, _, _, rfl, rfl, _, rfl, r, x.heard.map vN, rfl, .inl (.inl hrep14), fun i4 m4 => ?_⟩
    have h43 := same_new (o := .lst (cutV (x.heard.map vN) (some ((m.from_ : Int) + 1)) none)) m4 _ _ h33
    refine ⟨i3, i4, _, _, rfl, rfl, h43, upd_same, ?_, fun r2 m5 => ?_⟩
    · have h1 := cutV_length (x.heard.map vN) none (some (m.from_ : Int))
      have h2 := cutV_length (x.heard.map vN) (some ((m.from_ : Int) + 1)) none
      rw [hrl] at h1 h2
      rw [List.length_append]
      exact len_le (by show _ + 1 + (cutV (x.heard.map vN) (some ((m.from_ : Int) + 1)) none).length ≤ _; omega)
    have esp : cutV (x.heard.map vN) none (some (m.from_ : Int)) ++ [vN (max (at_ x.heard m.from_) m.clock)] ++ cutV (x.heard.map vN) (some ((m.from_ : Int) + 1)) none = (x.heard.set m.from_ (max (at_ x.heard m.from_) m.clock)).map vN := by
      rw [splice (by omega), List.map_set]
    have g5 : Same H14 (upd (upd H14 i4 (.lst (cutV (x.heard.map vN) (some ((m.from_ : Int) + 1)) none))) r2 (.lst (cutV (x.heard.map vN) none (some (m.from_ : Int)) ++ [vN (max (at_ x.heard m.from_) m.clock)] ++ cutV (x.heard.map vN) (some ((m.from_ : Int) + 1)) none))) := (same_new m4).trans (same_new m5)
    have hr15 : CtAt (upd (upd H14 i4 (.lst (cutV (x.heard.map vN) (some ((m.from_ : Int) + 1)) none))) r2 (.lst (cutV (x.heard.map vN) none (some (m.from_ : Int)) ++ [vN (max (at_ x.heard m.from_) m.clock)] ++ cutV (x.heard.map vN) (some ((m.from_ : Int) + 1)) none))) r2 (x.heard.set m.from_ (max (at_ x.heard m.from_) m.clock)) := by
      unfold CtAt
      rw [upd_same, esp]
    have g1215 := g1214.trans g5
    refine ⟨_, rfl, a, C, dx, _, rfl, g1215 _ _ hA12, T.cl, T.n_own_reported, (by show 8 < 1000; decide), ?_⟩
    rw [sp_own_reported]
    generalize upd (upd H14 i4 (.lst (cutV (x.heard.map vN) (some ((m.from_ : Int) + 1)) none))) r2 (.lst (cutV (x.heard.map vN) none (some (m.from_ : Int)) ++ [vN (max (at_ x.heard m.from_) m.clock)] ++ cutV (x.heard.map vN) (some ((m.from_ : Int) + 1)) none)) = H15 at *
    obtain ⟨b16, hA16, k16⟩ := stage (siteG k (max x.clock m.clock) x.gone c5 p t f2 r2) (b12.trans (But.of g1215)) (g1215 _ _ hA12)
    have k1216 := (Keep.of g1215).trans k16
    have sd16 := sd12.keep k1216
    have had16 := had12.keep k1216
    have hl16 := hl12.keep k1216
    have hc16 := hc12.keep k1216
    have hf16 := hf12.keep k1216
    have hr16 := hr15.keep k16
    generalize upd H15 a (.ins C dx (siteG k (max x.clock m.clock) x.gone c5 p t f2 r2)) = H16 at *
    -- return len(added)
    obtain ⟨as2, hal2, has2⟩ := had16
    refine ⟨_, rfl, ad, as2, rfl, .inl (.inl (.inl hal2)), ?_⟩
    rw [has2.length]
    have e1 : (x.sure[m.from_]?).getD [] = x.sure[m.from_] := by rw [List.getElem?_eq_getElem hsl]; rfl
    refine q H16 ⟨dx, c5, p, t, f2, r2, hA16, ⟨hc16, hl16, sd16.snap, ?_, hr16⟩⟩ b16
    show CfAt H16 f2 (x.sure.set m.from_ (most ((x.sure[m.from_]?).getD []) m.has))
    rw [e1]
    exact hf16
end
end Bt
namespace Bt
open PySem PySem.Spec PyProof.Rows L2
open Sq33 (Deed Desk House Letter Counts at_ most enter)

/-! ## the session -/
def sessG (ls lm : Addr) (n : Nat) : List (Str × V) := [("sites", .ref ls), ("messages", .ref lm), ("many_moves", vN n)]
section
variable {ls lm : Addr} {n : Nat}
theorem sn_sites : (sessG ls lm n).lookup ("sites" : Str) = some (.ref ls) := lk_at
theorem sn_messages : (sessG ls lm n).lookup ("messages" : Str) = some (.ref lm) := (lk_by (by decide +kernel)).trans lk_at
theorem sn_many_moves : (sessG ls lm n).lookup ("many_moves" : Str) = some (vN n) := (lk_by (by decide +kernel)).trans ((lk_by (by decide +kernel)).trans lk_at)
theorem su_sites {m : Addr} : putF "sites" (V.ref m) (sessG ls lm n) = sessG m lm n := pt_at
theorem su_messages {m : Addr} : putF "messages" (V.ref m) (sessG ls lm n) = sessG ls m n := (pt_by (by decide +kernel)).trans (congrArg _ pt_at)
theorem su_many_moves {m : Nat} : putF "many_moves" (vN m) (sessG ls lm n) = sessG ls lm m := (pt_by (by decide +kernel)).trans (congrArg _ ((pt_by (by decide +kernel)).trans (congrArg _ pt_at)))
theorem sn_none {m : Str} (h : (["sites", "messages", "many_moves"] : List Str).contains m = false) : (sessG ls lm n).lookup m = none := by
  simp only [List.contains_cons, List.contains_nil, Bool.or_false, Bool.or_eq_false_iff] at h
  obtain ⟨h1, h2, h3⟩ := h
  exact (lk_by h1).trans ((lk_by h2).trans ((lk_by h3).trans rfl))
end
def se1 (ls : Addr) : List (Str × V) := [("sites", .ref ls)]
def se2 (ls lm : Addr) : List (Str × V) := [("sites", .ref ls), ("messages", .ref lm)]
theorem sq1 {ls : Addr} : putF "sites" (V.ref ls) [] = se1 ls := rfl
theorem sq2 {ls lm : Addr} : putF "messages" (V.ref lm) (se1 ls) = se2 ls lm := (pt_by (by decide +kernel)).trans rfl
theorem sq3 {ls lm : Addr} : putF "many_moves" (V.int 0) (se2 ls lm) = sessG ls lm 0 := (pt_by (by decide +kernel)).trans (congrArg _ ((pt_by (by decide +kernel)).trans rfl))
structure SessT (K : PySem.W.Frag) (C : Addr) : Prop where
  cl : Cls K C
  n_sites : NoAttr K C "sites"
  n_messages : NoAttr K C "messages"
  n_many_moves : NoAttr K C "many_moves"
theorem sess_site {H : Hp} {s a CN CS dx dx' : Addr} {ls lm : Addr} {n k clk gone : Nat} {c l t f r : Addr} (h1 : H s = some (.ins CN dx (sessG ls lm n))) (h2 : H a = some (.ins CS dx' (siteG k clk gone c l t f r))) : s ≠ a :=
  ne_of h1 h2 (by
    intro z
    injection z with _ _ z
    have h9 : (3 : Nat) = 8 := congrArg List.length z
    cases h9)

/-- the session's parts: how many moves were made, the replicas, the messages -/
structure SessP (CS CN : Addr) (H : Hp) (s dx ls lm : Addr) (as : List Addr) (ms : List V) (n hands : Nat) (dk : Nat → Desk) (lt : List Letter) : Prop where
  obj : H s = some (.ins CN dx (sessG ls lm n))
  sites : H ls = some (.lst (as.map V.ref))
  nd : as.Nodup
  len : as.length = hands
  site : ∀ k a, as[k]? = some a → SiteAt CS H a k (dk k)
  msgs : H lm = some (.lst ms)
  lets : PySem.Paired (LtAt H) ms lt
def SessA (CS CN : Addr) (H : Hp) (s : Addr) (n hands : Nat) (dk : Nat → Desk) (lt : List Letter) : Prop := ∃ dx ls lm as ms, SessP CS CN H s dx ls lm as ms n hands dk lt
def SessAt (CS CN : Addr) (H : Hp) (s : Addr) (h : House) : Prop := SessA CS CN H s h.all.length h.hands h.desk h.letters

section
variable {CS CN : Addr} {H H' : Hp} {s dx ls lm : Addr} {as : List Addr} {ms : List V} {n hands : Nat} {dk dk' : Nat → Desk} {lt : List Letter}
theorem lets_keep (k : Keep H H') (h : PySem.Paired (LtAt H) ms lt) : PySem.Paired (LtAt H') ms lt := Paired.mapP h fun _ _ q => q.keep k
theorem SessP.keepA (e : Same H H') (P : SessP CS CN H s dx ls lm as ms n hands dk lt) : SessP CS CN H' s dx ls lm as ms n hands dk lt :=
  ⟨e _ _ P.obj, e _ _ P.sites, P.nd, P.len, fun k a ha => (P.site k a ha).keepA e, e _ _ P.msgs, lets_keep (Keep.of e) P.lets⟩
theorem SessP.addr (P : SessP CS CN H s dx ls lm as ms n hands dk lt) {k : Nat} (hk : k < hands) : ∃ a, as[k]? = some a ∧ SiteAt CS H a k (dk k) := by
  have h : k < as.length := by rw [P.len]; exact hk
  exact ⟨_, List.getElem?_eq_getElem h, P.site k _ (List.getElem?_eq_getElem h)⟩
theorem SiteAt.ins {C a k : Nat} {x : Desk} (h : SiteAt C H a k x) : ∃ dx fs, H a = some (.ins C dx fs) := by
  obtain ⟨dx, c, l, t, f, r, h1, _⟩ := h
  exact ⟨dx, _, h1⟩
/-- one replica is another -/
theorem SessP.setSite (P : SessP CS CN H s dx ls lm as ms n hands dk lt) {k : Nat} {a : Addr} {x : Desk} (ha : as[k]? = some a) (hx : SiteAt CS H' a k x) (b : But a H H') (hd : ∀ j, dk' j = if j = k then x else dk j) :
    SessP CS CN H' s dx ls lm as ms n hands dk' lt := by
  obtain ⟨dxa, fsa, hi⟩ := (P.site k a ha).ins
  obtain ⟨dx2, c, l, t, f, r, h1, _⟩ := P.site k a ha
  have kp : Keep H H' := Keep.but hi b
  refine ⟨b _ _ P.obj (sess_site P.obj h1), kp.lst P.sites, P.nd, P.len, fun j y hj => ?_, kp.lst P.msgs, lets_keep kp P.lets⟩
  rw [hd]
  by_cases e : j = k
  · subst e
    rw [if_pos rfl]
    have : y = a := Option.some.inj (hj.symm.trans ha)
    rw [this]
    exact hx
  · rw [if_neg e]
    obtain ⟨dy, c', l', t', f', r', h1', sd'⟩ := P.site j y hj
    have hya : y ≠ a := fun q => e (nd_ix P.nd hj (by rw [q]; exact ha))
    exact ⟨dy, c', l', t', f', r', b _ _ h1' hya, sd'.keep kp⟩
/-- the session's own attributes are others -/
theorem SessP.setObj (P : SessP CS CN H s dx ls lm as ms n hands dk lt) {lm' : Addr} {ms' : List V} {n' : Nat} {lt' : List Letter} (hm : H lm' = some (.lst ms')) (hl : PySem.Paired (LtAt H) ms' lt') :
    SessP CS CN (upd H s (.ins CN dx (sessG ls lm' n'))) s dx ls lm' as ms' n' hands dk lt' := by
  have kp : Keep H (upd H s (.ins CN dx (sessG ls lm' n'))) := Keep.ins P.obj
  refine ⟨upd_same, kp.lst P.sites, P.nd, P.len, fun k a ha => ?_, kp.lst hm, lets_keep kp hl⟩
  obtain ⟨dy, c, l, t, f, r, h1, sd⟩ := P.site k a ha
  exact ⟨dy, c, l, t, f, r, by rw [upd_ne (fun q => sess_site P.obj h1 q.symm)]; exact h1, sd.keep kp⟩
end
theorem desk_set {h : House} {k : Nat} {x : Desk} (hk : k < h.desks.length) (j : Nat) : (h.set k x).desk j = if j = k then x else h.desk j := by
  show ((h.desks.set k x)[j]?).getD (Sq33.none_ 0) = _
  rw [List.getElem?_set]
  by_cases e : k = j
  · subst e
    rw [if_pos rfl, if_pos hk, if_pos rfl]
    rfl
  · rw [if_neg e, if_neg (fun q => e q.symm)]
    rfl
theorem desk_new {n k : Nat} (hk : k < n) : (Sq33.new n).desk k = Sq33.none_ n := by
  show ((List.replicate n (Sq33.none_ n))[k]?).getD (Sq33.none_ 0) = _
  rw [List.getElem?_replicate, if_pos hk]
  rfl

/-- a heap without one object -/
def Del (H : Hp) (l : Addr) : Hp := fun b => if b = l then none else H b
theorem del_at {H : Hp} {l b : Addr} (h : b ≠ l) : Del H l b = H b := if_neg h
theorem del_ne {H : Hp} {l b : Addr} {o : HO} (h : Del H l b = some o) : b ≠ l := fun e => by
  unfold Del at h
  rw [if_pos e] at h
  cases h
theorem del_is {H : Hp} {l b : Addr} {o : HO} (h : Del H l b = some o) : H b = some o := by
  rw [← del_at (H := H) (del_ne h)]
  exact h
theorem del_sub (H : Hp) (l : Addr) : Same (Del H l) H := fun _ _ h => del_is h
/-! ## the session's own methods -/
def spSInit (CS CN : Addr) : Sp := fun vs H Q _ => ∃ (p dx : Addr), vs = [.ref p] ∧ H p = some (.ins CN dx []) ∧ ∀ H', SessAt CS CN H' p Sq33.fresh → But p H H' → Q .non H'
def spHas (CS CN : Addr) : Sp := fun vs H Q _ => ∃ (s : Addr) (k n hands : Nat) (dk : Nat → Desk) (lt : List Letter), vs = [.ref s, vN k] ∧ SessA CS CN H s n hands dk lt ∧ Q (.bl (decide (k < hands))) H
def spAnew (CS CN : Addr) : Sp := fun vs H Q _ => ∃ (s dx : Addr) (fs : List (Str × V)) (n : Nat), vs = [.ref s, vN n] ∧ H s = some (.ins CN dx fs) ∧ (∃ ls lm k, fs = sessG ls lm k) ∧ n ≤ 6 ∧ ∀ H', SessAt CS CN H' s (Sq33.new n) → But s H H' → Q .non H'

section
variable {P : Program} {w : World} {K : PySem.W.Frag} {mg : Str → Option Value} {base : Heap} {CS CN : Addr}
abbrev smeth (j : Nat) : Stmt := inClass (top 42) j

theorem sc_has : FnScope ["self", "number"] ["self", "number"] (defScope (smeth 1)) := ⟨rfl, rfl, rfl, by decide +kernel, rfl, by decide +kernel, by decide +kernel⟩
theorem ok_has (D : MethAt K CN "has_site" "Session.has_site" (smeth 1) ["self", "number"]) (T : SessT K CN) (gl : mg "len" = none) : CalM P w K mg base 1 CN "has_site" ["self", "number"] (spHas CS CN) := by
  refine D.ok T.cl sc_has (fun vs H Q E h => ?_) (fun f cdv A outer s H vs Q E hr h => ?_)
  · obtain ⟨s, k, n, hands, dk, lt, rfl, _⟩ := h
    rfl
  · obtain ⟨s, k, n, hands, dk, lt, rfl, ⟨dx, ls, lm, as, ms, P⟩, q⟩ := h
    refine ⟨_, pss_one (ps_ret (pe_cmpR op_lt (pv 1) (pe_callB call_len_seq rfl gl PySem.boot_len (pa_cons (pe_fld (pv 0) rfl) pa_nil)) (nomark _))), ?_⟩
    refine ⟨_, rfl, _, rfl, s, CN, dx, _, _, rfl, P.obj, T.cl, T.n_sites, sn_sites, ls, _, rfl, .inl (.inl (.inl P.sites)), _, _, rfl, rfl, ?_⟩
    rw [List.length_map, P.len]
    have e : decide ((k : Int) < (hands : Int)) = decide (k < hands) := by
      by_cases h : k < hands
      · rw [decide_eq_true h, decide_eq_true (by omega)]
      · rw [decide_eq_false h, decide_eq_false (by omega)]
    rw [← e] at q
    exact q

theorem sc_sinit : FnScope ["self"] ["self"] (defScope (smeth 0)) := ⟨rfl, rfl, rfl, by decide +kernel, rfl, by decide +kernel, by decide +kernel⟩
theorem ok_sinit (D : InitAt K mg "Session" CN "Session.__init__" (smeth 0) ["self"]) (T : SessT K CN) (c1 : CalC P w K mg base 2 "Site" CS ["self", "number", "many"] (spInit CS)) : CalC P w K mg base 4 "Session" CN ["self"] (spSInit CS CN) := by
  refine D.ok sc_sinit (fun vs H Q E h => ?_) (fun f cdv A outer s H vs Q E hr h => ?_)
  · obtain ⟨p, dx, rfl, _⟩ := h
    rfl
  · obtain ⟨p, dx, rfl, hp, q⟩ := h
    refine ⟨_, pss_cons (ps_fld (pv 0) (pe_lst (pa_cons (qmk c1 hr (by decide) rfl (pa_cons pe_int (pa_cons pe_int pa_nil))) pa_nil)) rfl)
      (pss_cons (ps_fld (pv 0) (pe_lst pa_nil) rfl) (pss_one (ps_fld (pv 0) pe_int rfl))), ?_⟩
    intro x dx2 nx nd ne
    refine ⟨x, dx2, 0, 1, rfl, upd_same, by decide, fun H1 hx0 b1 => ⟨rfl, ?_⟩⟩
    have hx := hx0.at_
    have s1 : Same H H1 := Same.made nx nd b1
    refine ⟨(by show 1 ≤ sizeLine; decide), fun ls nls => ?_⟩
    have s2 : Same H1 (upd H1 ls (.lst [.ref x])) := same_new nls
    have hls : upd H1 ls (.lst [.ref x]) ls = some (.lst [.ref x]) := upd_same
    have hx2 := hx.keepA s2
    generalize upd H1 ls (.lst [.ref x]) = H2 at *
    have hp2 := s2 _ _ (s1 _ _ hp)
    refine ⟨_, rfl, p, CN, dx, [], rfl, hp2, T.cl, T.n_sites, (by decide), ?_⟩
    rw [sq1]
    obtain ⟨b3, hp3, k3⟩ := stage (se1 ls) (But.of (s1.trans s2)) hp2
    have hxp : x ≠ p := fun e => by
      rw [e] at nx
      rw [hp] at nx
      cases nx
    have hls3 := k3.lst hls
    have hx3 : SiteAt CS (upd H2 p (.ins CN dx (se1 ls))) x 0 (Sq33.none_ 1) := by
      obtain ⟨d, c, l, t, f, r, h1, sd⟩ := hx2
      exact ⟨d, c, l, t, f, r, by rw [upd_ne hxp]; exact h1, sd.keep k3⟩
    generalize upd H2 p (.ins CN dx (se1 ls)) = H3 at *
    refine ⟨Nat.zero_le _, fun lm nlm => ?_⟩
    have s4 : Same H3 (upd H3 lm (.lst [])) := same_new nlm
    have hlm : upd H3 lm (.lst []) lm = some (.lst []) := upd_same
    generalize upd H3 lm (.lst []) = H4 at *
    have hp4 := s4 _ _ hp3
    refine ⟨_, rfl, p, CN, dx, _, rfl, hp4, T.cl, T.n_messages, (by show 1 < 1000; decide), ?_⟩
    rw [sq2]
    obtain ⟨b5, hp5, k5⟩ := stage (se2 ls lm) (b3.trans (But.of s4)) hp4
    have hls5 := ((Keep.of s4).trans k5).lst hls3
    have hlm5 := k5.lst hlm
    have hx5 : SiteAt CS (upd H4 p (.ins CN dx (se2 ls lm))) x 0 (Sq33.none_ 1) := by
      obtain ⟨d, c, l, t, f, r, h1, sd⟩ := hx3.keepA s4
      exact ⟨d, c, l, t, f, r, by rw [upd_ne hxp]; exact h1, sd.keep k5⟩
    generalize upd H4 p (.ins CN dx (se2 ls lm)) = H5 at *
    refine ⟨_, rfl, p, CN, dx, _, rfl, hp5, T.cl, T.n_many_moves, (by show 2 < 1000; decide), ?_⟩
    rw [sq3]
    obtain ⟨b6, hp6, k6⟩ := stage (sessG ls lm 0) b5 hp5
    refine q _ ⟨dx, ls, lm, [x], [], hp6, k6.lst hls5, by simp, rfl, fun k a ha => ?_, k6.lst hlm5, .nil⟩ b6
    cases k with
    | zero =>
      have e : x = a := Option.some.inj ha
      subst e
      obtain ⟨d, c, l, t, f, r, h1, sd⟩ := hx5
      exact ⟨d, c, l, t, f, r, by rw [upd_ne hxp]; exact h1, sd.keep k6⟩
    | succ k => simp at ha

theorem sc_anew : FnScope ["self", "many", "number"] ["self", "many"] (defScope (smeth 2)) := ⟨rfl, rfl, rfl, by decide +kernel, rfl, by decide +kernel, by decide +kernel⟩
theorem ok_anew (D : MethAt K CN "start_anew" "Session.start_anew" (smeth 2) ["self", "many"]) (T : SessT K CN) (c1 : CalC P w K mg base 2 "Site" CS ["self", "number", "many"] (spInit CS)) (gr : mg "range" = none) : CalM P w K mg base 4 CN "start_anew" ["self", "many"] (spAnew CS CN) := by
  refine D.ok T.cl sc_anew (fun vs H Q E h => ?_) (fun f cdv A outer s H vs Q E hr h => ?_)
  · obtain ⟨p, dx, fs, n, rfl, _⟩ := h
    rfl
  · obtain ⟨p, dx, fs, n, rfl, hp, ⟨ls0, lm0, k0, rfl⟩, hn, q⟩ := h
    refine ⟨_, pss_cons (ps_fld (pv 0) (pe_lc (own := [("number", 2)]) (g := gName 2) (tt := tYes) (te := tMake CS (spInit CS) [] E0 (tCons (tVar 2) (tCons (tVar 1) tNil))) rfl sc_anew.nd (pi_range1 rfl gr (pa_cons (pv 1) pa_nil)) (blkOk_by (own := [("number", 2)]) (N := ["self", "many", "number"]) (sc := defScope (smeth 2)) (by decide +kernel))
        (fun _ _ _ _ _ => pg_name (i := 2) sc_anew.nd rfl (Or.inl rfl)) (fun _ _ _ _ _ => pts_nil) (fun _ _ _ _ _ => qmk c1 hr (by decide) rfl (pa_cons (pv 2) (pa_cons (pv 1) pa_nil)))) rfl)
      (pss_cons (ps_fld (pv 0) (pe_lst pa_nil) rfl) (pss_one (ps_fld (pv 0) pe_int rfl))), ?_⟩
    refine ⟨_, rfl, (n : Int), rfl, by omega, by omega, fun ls nls => ?_⟩
    rw [Int.toNat_natCast]
    have hpl : p ≠ ls := ne_of_none hp nls
    refine lc_range (lo := 0) (n := n) (fun i H' => Same H H' ∧ ∃ as : List Addr, H' ls = some (.lst (as.map V.ref)) ∧ as.Nodup ∧ as.length = i ∧ (∀ a ∈ as, H a = none) ∧ ∀ k a, as[k]? = some a → SiteAt CS (Del H' ls) a k (Sq33.none_ n))
      ⟨same_new nls, [], upd_same, List.nodup_nil, rfl, by simp, by simp⟩ ?_ ?_
    · rintro i H' hi ⟨s1, as, hls, hnd, hlen, hfr, hsi⟩
      have e0 : V.int (0 + (i : Int)) = vN i := congrArg V.int (Int.zero_add _)
      refine ⟨rfl, _, rfl, _, rfl, ?_⟩
      intro x dx2 nx nd ne
      have hxls : x ≠ ls := fun e => by
        rw [e, hls] at nx
        cases nx
      have hdls : dx2 ≠ ls := fun e => by
        rw [e, hls] at nd
        cases nd
      refine ⟨x, dx2, i, n, congrArg (fun z => [V.ref x, z, vN n]) e0, upd_same, hn, fun H2 hx b2 => ⟨rfl, ?_⟩⟩
      have s2 : Same H' H2 := Same.made nx nd b2
      have hxas : x ∉ as := fun hm => by
        obtain ⟨j, hj⟩ := List.mem_iff_getElem?.mp hm
        obtain ⟨d, c, l, t, f, r, h1, _⟩ := hsi j x hj
        rw [del_is h1] at nx
        cases nx
      have kD : ∀ o, Same (Del H' ls) (Del (upd H2 ls o) ls) := fun o b u e => by
        have hb := del_ne e
        rw [del_at hb, upd_ne hb]
        exact s2 _ _ (del_is e)
      refine ⟨_, s2 _ _ hls, ?_, same_mut (s1.trans s2) nls, as ++ [x], ?_, ?_, ?_, ?_, ?_⟩
      · rw [List.length_map, hlen]
        exact len_small (by omega)
      · rw [upd_same, List.map_append]
        rfl
      · rw [List.nodup_append]
        refine ⟨hnd, by simp, fun a ha b hb => ?_⟩
        have : b = x := by simpa using hb
        subst this
        intro q
        subst q
        exact hxas ha
      · rw [List.length_append, hlen]
        rfl
      · intro a ha
        rcases List.mem_append.mp ha with ha | ha
        · exact hfr a ha
        · have : a = x := by simpa using ha
          subst this
          exact s1.free nx
      · intro k a ha
        by_cases hk : k < as.length
        · rw [List.getElem?_append_left hk] at ha
          exact (hsi k a ha).keepA (kD _)
        · have hk2 : k = i := by
            have := (List.getElem?_eq_some_iff.mp ha).1
            rw [List.length_append, hlen] at this
            simp at this
            omega
          subst hk2
          rw [List.getElem?_append_right (by omega), hlen, Nat.sub_self] at ha
          have e : x = a := Option.some.inj ha
          subst e
          obtain ⟨d, c, l, t, f, r, h1, sd⟩ := hx
          refine ⟨d, c, l, t, f, r, by rw [del_at hxls, upd_ne hxls]; exact h1, sd.keep fun b o e n => ?_⟩
          obtain ⟨e1, e2⟩ := fresh_is e
          have hb : b ≠ ls := fun q => by
            rw [q, upd_ne (fun z => hxls z.symm), upd_ne (fun z => hdls z.symm), hls] at e1
            cases e1
          rw [del_at hb, upd_ne hb]
          exact e2
    · rintro H1 ⟨s1, as, hls, hnd, hlen, hfr, hsi⟩
      have hp1 := s1 _ _ hp
      have hsi1 : ∀ k a, as[k]? = some a → SiteAt CS H1 a k (Sq33.none_ n) := fun k a ha => (hsi k a ha).keepA (del_sub H1 ls)
      have nep : ∀ k a, as[k]? = some a → a ≠ p := fun k a ha e => by
        have := hfr a (List.mem_of_getElem? ha)
        rw [e, hp] at this
        cases this
      refine ⟨_, rfl, p, CN, dx, _, rfl, hp1, T.cl, T.n_sites, (by show 3 < 1000; decide), ?_⟩
      rw [su_sites]
      obtain ⟨b2, hp2, k2⟩ := stage (sessG ls lm0 k0) (But.of s1) hp1
      have hls2 := k2.lst hls
      have hsi2 : ∀ k a, as[k]? = some a → SiteAt CS (upd H1 p (.ins CN dx (sessG ls lm0 k0))) a k (Sq33.none_ n) := fun k a ha => by
        obtain ⟨d, c, l, t, f, r, h1, sd⟩ := hsi1 k a ha
        exact ⟨d, c, l, t, f, r, by rw [upd_ne (nep k a ha)]; exact h1, sd.keep k2⟩
      generalize upd H1 p (.ins CN dx (sessG ls lm0 k0)) = H2 at *
      refine ⟨Nat.zero_le _, fun lm nlm => ?_⟩
      have s3 : Same H2 (upd H2 lm (.lst [])) := same_new nlm
      have hlm3 : upd H2 lm (.lst []) lm = some (.lst []) := upd_same
      generalize upd H2 lm (.lst []) = H3 at *
      have hp3 := s3 _ _ hp2
      refine ⟨_, rfl, p, CN, dx, _, rfl, hp3, T.cl, T.n_messages, (by show 3 < 1000; decide), ?_⟩
      rw [su_messages]
      obtain ⟨b4, hp4, k4⟩ := stage (sessG ls lm k0) (b2.trans (But.of s3)) hp3
      have hls4 := k4.lst (s3 _ _ hls2)
      have hlm4 := k4.lst hlm3
      have hsi4 : ∀ k a, as[k]? = some a → SiteAt CS (upd H3 p (.ins CN dx (sessG ls lm k0))) a k (Sq33.none_ n) := fun k a ha => by
        obtain ⟨d, c, l, t, f, r, h1, sd⟩ := (hsi2 k a ha).keepA s3
        exact ⟨d, c, l, t, f, r, by rw [upd_ne (nep k a ha)]; exact h1, sd.keep k4⟩
      generalize upd H3 p (.ins CN dx (sessG ls lm k0)) = H4 at *
      refine ⟨_, rfl, p, CN, dx, _, rfl, hp4, T.cl, T.n_many_moves, (by show 3 < 1000; decide), ?_⟩
      rw [show putF "many_moves" (V.int 0) (sessG ls lm k0) = sessG ls lm 0 from su_many_moves (m := 0)]
      obtain ⟨b5, hp5, k5⟩ := stage (sessG ls lm 0) b4 hp4
      refine q _ ⟨dx, ls, lm, as, [], hp5, k5.lst hls4, hnd, hlen, fun k a ha => ?_, k5.lst hlm4, .nil⟩ b5
      have hk : k < n := by
        have := (List.getElem?_eq_some_iff.mp ha).1
        omega
      rw [desk_new hk]
      obtain ⟨d, c, l, t, f, r, h1, sd⟩ := hsi4 k a ha
      exact ⟨d, c, l, t, f, r, by rw [upd_ne (nep k a ha)]; exact h1, sd.keep k5⟩
end
end Bt
namespace Bt
open PySem PySem.Spec PyProof.Rows L2
open Sq33 (Deed Desk House Letter Counts at_ most enter)

/-! ## operations -/
def resOf (o : Sq33.Out) : List Int := o.value :: o.out
def callIs : Nat → List Nat → Option Sq33.Call
  | 1, [a] => some (.begin_ a)
  | 2, [a, b, c, d] => some (.move a b c d)
  | 3, [a, b] => some (.send a b)
  | 4, [a] => some (.comes a)
  | 5, [a] => some (.forget a)
  | 6, [a] => some (.tree a)
  | 7, [a] => some (.bin a)
  | 8, [a] => some (.kept a)
  | 9, [a] => some (.settled a)
  | 10, [a] => some (.ripe a)
  | 11, [a, b] => some (.same a b)
  | _, _ => none
/-- the promise of an operation: what the specification's step says -/
def spOp (CS CN : Addr) (op : Nat) : Sp := fun vs H Q _ => ∃ (s p : Addr) (ns : List Nat) (h : House) (c : Sq33.Call), vs = [.ref s, .ref p] ∧ CtAt H p ns ∧ callIs op ns = some c ∧ SessAt CS CN H s h ∧ HouseOk h ∧ (resOf (Sq33.House.step h c).2).length ≤ 1000000 ∧
  ∀ H' q, Keep H H' → SessAt CS CN H' s (Sq33.House.step h c).1 → H' q = some (.lst ((resOf (Sq33.House.step h c).2).map V.int)) → Q (.ref q) H'
theorem iteND {p A B : Prop} [Decidable p] (h1 : ¬ p → A) (h2 : p → B) : if (!decide p) = true then A else B := by
  by_cases h : p
  · rw [decide_eq_true h]
    exact iteF (h2 h)
  · rw [decide_eq_false h]
    exact iteT (h1 h)
theorem SessAt.keepA {CS CN s : Addr} {H H' : Hp} {h : House} (e : Same H H') (S : SessAt CS CN H s h) : SessAt CS CN H' s h := by
  obtain ⟨dx, ls, lm, as, ms, P⟩ := S
  exact ⟨dx, ls, lm, as, ms, P.keepA e⟩
def spOutside : Sp := fun vs H Q _ => ∃ (x u v : Nat), vs = [vN x, vN u, vN v] ∧ Q (.bl (decide (x < 2 ∨ 64 ≤ x ∨ 64 ≤ u ∨ 1000000000 < v))) H

theorem one_of {ns : List Nat} {f : Nat → Sq33.Call} {c : Sq33.Call} (h : (match ns with | [a] => some (f a) | _ => none) = some c) : ∃ a, ns = [a] ∧ c = f a := by
  match ns, h with
  | [a], h => exact ⟨a, rfl, (Option.some.inj h).symm⟩

section
variable {P : Program} {w : World} {K : PySem.W.Frag} {mg : Str → Option Value} {base : Heap} {CS CN : Addr}

theorem sc_begin : FnScope ["session", "numbers", "many"] ["session", "numbers"] (defScope (top 43)) := ⟨rfl, rfl, rfl, by decide +kernel, rfl, by decide +kernel, by decide +kernel⟩
theorem ok_begin (D : DefAt K mg "begin" (top 43) ["session", "numbers"]) (c1 : CalM P w K mg base 4 CN "start_anew" ["self", "many"] (spAnew CS CN)) (gM : IntG mg "MOST_REPLICAS" 6) (gO : IntG mg "OUTSIDE" (-1)) : CalD P w K mg base 5 "begin" ["session", "numbers"] (spOp CS CN 1) := by
  refine D.ok sc_begin (fun vs H Q E h => ?_) (fun f cdv A outer s H vs Q E hr h => ?_)
  · obtain ⟨s, p, ns, h, c, rfl, _⟩ := h
    rfl
  · obtain ⟨s, p, ns, h, c, rfl, hp, hc, hS, wh, hsm, q⟩ := h
    obtain ⟨n, rfl, rfl⟩ : ∃ a, ns = [a] ∧ c = .begin_ a := by
      match ns, hc with
      | [a], hc => exact ⟨a, rfl, (Option.some.inj hc).symm⟩
    have nd := sc_begin.nd
    refine ⟨_, pss_cons (ps_set (i := 2) nd rfl (Or.inl rfl) (pe_ix ix_list (pv 1) pe_int (fun _ _ => rfl)))
      (pss_cons (ps_if (PW.pt (pw_or (pt_cmpR op_lt (pv 2) pe_int (nomark _)) (pw_or1 (pt_cmpR op_gt (pv 2) (qg gM) (nomark _))))) (pss_one (ps_ret (pe_lst (pa_cons (qg gO) pa_nil)))) pss_nil)
      (pss_cons (ps_expr (qm c1 hr (by decide) (pv 0) (pa_cons (pv 2) pa_nil)))
      (pss_one (ps_ret (pe_lst (pa_cons pe_int pa_nil)))))), ?_⟩
    have bad : n = 0 ∨ 6 < n → ∀ q, H q = none → Q (.ref q) (upd H q (.lst [.int (-1)])) := fun hb z nz => by
      have e : Sq33.House.step h (.begin_ n) = (h, Sq33.says (-1)) := if_pos hb
      rw [e] at q
      exact q _ z (Keep.of (same_new nz)) (hS.keepA (same_new nz)) upd_same
    refine ⟨_, rfl, p, _, _, vN n, rfl, rfl, .inl (.inl hp), at_of (j := 0) rfl rfl, ?_⟩
    refine ⟨_, rfl, _, _, rfl, rfl, _, rfl, iteD (fun h1 => iteT ⟨(by show 1 ≤ sizeLine; decide), bad (.inl (by omega))⟩) (fun h1 => ?_)⟩
    refine ⟨_, rfl, _, _, rfl, rfl, _, rfl, iteD (fun h2 => ⟨(by show 1 ≤ sizeLine; decide), bad (.inr (by omega))⟩) (fun h2 => ?_)⟩
    obtain ⟨dx, ls, lm, as, ms, SP⟩ := id hS
    refine ⟨_, rfl, s, dx, _, rfl, SP.obj, sn_none (by decide +kernel), _, rfl, s, dx, _, n, rfl, SP.obj, ⟨ls, lm, _, rfl⟩, by omega, fun H1 hS1 b1 => ?_⟩
    refine ⟨(by show 1 ≤ sizeLine; decide), fun z nz => ?_⟩
    have e : Sq33.House.step h (.begin_ n) = (Sq33.new n, Sq33.says 0) := if_neg (by show ¬ (n = 0 ∨ 6 < n); omega)
    rw [e] at q
    exact q _ z ((Keep.but SP.obj b1).trans (Keep.of (same_new nz))) (hS1.keepA (same_new nz)) upd_same

theorem sc_outside : FnScope ["node", "parent", "label"] ["node", "parent", "label"] (defScope (top 44)) := ⟨rfl, rfl, rfl, by decide +kernel, rfl, by decide +kernel, by decide +kernel⟩
theorem ok_outside (D : DefAt K mg "is_outside" (top 44) ["node", "parent", "label"]) (gR : IntG mg "ROOT" 0) (gB : IntG mg "BIN" 1) (gM : IntG mg "MANY_NODES" 64) (gL : IntG mg "MOST_LABEL" 1000000000) : CalD P w K mg base 1 "is_outside" ["node", "parent", "label"] spOutside := by
  refine D.ok sc_outside (fun vs H Q E h => ?_) (fun f cdv A outer s H vs Q E hr h => ?_)
  · obtain ⟨x, u, v, rfl, _⟩ := h
    rfl
  · obtain ⟨x, u, v, rfl, q⟩ := h
    refine ⟨_, pss_one (ps_ret (pe_or (pe_cmpR op_eq (pv 0) (qg gR) (nomark _)) (pe_or (pe_cmpR op_eq (pv 0) (qg gB) (nomark _)) (pe_or (pe_cmpR op_ge (pv 0) (qg gM) (nomark _)) (pe_or (pe_cmpR op_ge (pv 1) (qg gM) (nomark _)) (pe_one (pe_cmpR op_gt (pv 2) (qg gL) (nomark _)))))))), ?_⟩
    have yes : (x < 2 ∨ 64 ≤ x ∨ 64 ≤ u ∨ 1000000000 < v) → Q (.bl true) H := fun hb => by
      rw [decide_eq_true hb] at q
      exact q
    refine ⟨_, rfl, rfl, _, rfl, iteD (fun h1 => yes (.inl (by have := vint h1; omega))) (fun h1 => ?_)⟩
    have h1' : ¬ x = 0 := fun z => h1 (by rw [z]; rfl)
    refine ⟨_, rfl, rfl, _, rfl, iteD (fun h2 => yes (.inl (by have := vint h2; omega))) (fun h2 => ?_)⟩
    have h2' : ¬ x = 1 := fun z => h2 (by rw [z]; rfl)
    refine ⟨_, rfl, _, _, rfl, rfl, _, rfl, iteD (fun h3 => yes (.inr (.inl (by omega)))) (fun h3 => ?_)⟩
    refine ⟨_, rfl, _, _, rfl, rfl, _, rfl, iteD (fun h4 => yes (.inr (.inr (.inl (by omega))))) (fun h4 => ?_)⟩
    refine ⟨_, rfl, _, _, rfl, rfl, ?_⟩
    have e : decide ((1000000000 : Int) < (v : Int)) = decide (x < 2 ∨ 64 ≤ x ∨ 64 ≤ u ∨ 1000000000 < v) := by
      by_cases h5 : 1000000000 < v
      · rw [decide_eq_true (by omega : (1000000000 : Int) < (v : Int)), decide_eq_true (.inr (.inr (.inr h5)))]
      · rw [decide_eq_false (by omega : ¬ (1000000000 : Int) < (v : Int)), decide_eq_false (by omega)]
    rw [← e] at q
    exact q

theorem sc_move : FnScope ["session", "numbers", "number", "node", "parent", "label"] ["session", "numbers"] (defScope (top 45)) := ⟨rfl, rfl, rfl, by decide +kernel, rfl, by decide +kernel, by decide +kernel⟩
theorem ok_move (D : DefAt K mg "move" (top 45) ["session", "numbers"]) (T : SessT K CN) (cH : CalM P w K mg base 1 CN "has_site" ["self", "number"] (spHas CS CN)) (c1 : CalD P w K mg base 1 "is_outside" ["node", "parent", "label"] spOutside)
    (c2 : CalM P w K mg base 6 CS "make_move" ["self", "node", "parent", "label"] (spMake CS)) (gN : IntG mg "NOT_THERE" (-2)) (gO : IntG mg "OUTSIDE" (-1)) (gT : IntG mg "TOO_MANY" (-5)) (gM : IntG mg "MOST_MOVES" 80) : CalD P w K mg base 7 "move" ["session", "numbers"] (spOp CS CN 2) := by
  refine D.ok sc_move (fun vs H Q E h => ?_) (fun f cdv A outer s H vs Q E hr h => ?_)
  · obtain ⟨s, p, ns, h, c, rfl, _⟩ := h
    rfl
  · obtain ⟨s, p, ns, h, c, rfl, hp, hc, hS, wh, hsm, q⟩ := h
    obtain ⟨k, x, u, v, rfl, rfl⟩ : ∃ a b d e, ns = [a, b, d, e] ∧ c = .move a b d e := by
      match ns, hc with
      | [a, b, d, e], hc => exact ⟨a, b, d, e, rfl, (Option.some.inj hc).symm⟩
    have nd := sc_move.nd
    refine ⟨_, pss_cons (ps_asg (pv 1) (pg_unl rfl (pgs_cons (pg_name (i := 2) nd rfl (Or.inl rfl)) (pgs_cons (pg_name (i := 3) nd rfl (Or.inl rfl)) (pgs_cons (pg_name (i := 4) nd rfl (Or.inl rfl)) (pgs_cons (pg_name (i := 5) nd rfl (Or.inl rfl)) pgs_nil))))))
      (pss_cons (ps_if (pt_not (pt_val (qm cH hr (by decide) (pv 0) (pa_cons (pv 2) pa_nil)))) (pss_one (ps_ret (pe_lst (pa_cons (qg gN) pa_nil)))) pss_nil)
      (pss_cons (ps_if (pt_val (qc c1 hr (by decide) rfl (pa_cons (pv 3) (pa_cons (pv 4) (pa_cons (pv 5) pa_nil))))) (pss_one (ps_ret (pe_lst (pa_cons (qg gO) pa_nil)))) pss_nil)
      (pss_cons (ps_if (pt_cmpR op_ge (pe_fld (pv 0) rfl) (qg gM) (nomark _)) (pss_one (ps_ret (pe_lst (pa_cons (qg gT) pa_nil)))) pss_nil)
      (pss_cons (ps_fld (pv 0) (pe_op op_add (pe_fld (pv 0) rfl) pe_int) rfl)
      (pss_one (ps_ret (qm c2 hr (by decide) (pe_ix ix_list (pe_fld (pv 0) rfl) (pv 2) (fun _ _ => rfl)) (pa_cons (pv 3) (pa_cons (pv 4) (pa_cons (pv 5) pa_nil)))))))))), ?_⟩
    have bad : ∀ z : Int, Sq33.House.step h (.move k x u v) = (h, Sq33.says z) → ∀ q, H q = none → Q (.ref q) (upd H q (.lst [.int z])) := fun z e y ny => by
      rw [e] at q
      exact q _ y (Keep.of (same_new ny)) (hS.keepA (same_new ny)) upd_same
    obtain ⟨dx, ls, lm, as, ms, SP⟩ := id hS
    refine ⟨_, rfl, p, _, rfl, .inl (.inl hp), rfl, _, _, rfl, _, _, rfl, _, _, rfl, _, _, rfl, rfl, ?_⟩
    refine ⟨_, rfl, s, dx, _, rfl, SP.obj, sn_none (by decide +kernel), _, rfl, s, k, _, _, _, _, rfl, hS, _, rfl, iteND (fun h1 => ?_) (fun h1 => ?_)⟩
    · refine ⟨(by show 1 ≤ sizeLine; decide), bad (-2) (if_pos (by omega))⟩
    have n1 : ¬ h.hands ≤ k := by omega
    refine ⟨_, rfl, _, rfl, _, rfl, x, u, v, rfl, _, rfl, iteD (fun h2 => ?_) (fun h2 => ?_)⟩
    · refine ⟨(by show 1 ≤ sizeLine; decide), bad (-1) ?_⟩
      exact (if_neg n1).trans (if_pos h2)
    refine ⟨_, rfl, s, CN, dx, _, _, rfl, SP.obj, T.cl, T.n_many_moves, sn_many_moves, _, _, rfl, rfl, _, rfl, iteD (fun h3 => ?_) (fun h3 => ?_)⟩
    · refine ⟨(by show 1 ≤ sizeLine; decide), bad (-5) ?_⟩
      exact (if_neg n1).trans ((if_neg h2).trans (if_pos (show 80 ≤ h.all.length by omega)))
    have hlt : h.all.length < 80 := by omega
    -- session.many_moves = session.many_moves + 1
    refine ⟨_, rfl, s, CN, dx, _, _, rfl, SP.obj, T.cl, T.n_many_moves, sn_many_moves, _, _, rfl, rfl, _, rfl, s, CN, dx, _, rfl, SP.obj, T.cl, T.n_many_moves, (by show 3 < 1000; decide), ?_⟩
    rw [show putF "many_moves" ((fun i j => V.int (i + j)) (h.all.length : Int) 1) (sessG ls lm h.all.length) = sessG ls lm (h.all.length + 1) from su_many_moves (m := h.all.length + 1)]
    have k1 : Keep H (upd H s (.ins CN dx (sessG ls lm (h.all.length + 1)))) := Keep.ins SP.obj
    have SP1 := SP.setObj (lm' := lm) (ms' := ms) (n' := h.all.length + 1) (lt' := h.letters) SP.msgs SP.lets
    generalize upd H s (.ins CN dx (sessG ls lm (h.all.length + 1))) = H1 at *
    -- return session.sites[number].make_move(node, parent, label)
    have hk : k < h.hands := by omega
    obtain ⟨a, ha, hA⟩ := SP1.addr hk
    obtain ⟨dxa, c, l, t, f, r, hA0, _⟩ := id hA
    refine ⟨_, rfl, s, CN, dx, _, _, rfl, SP1.obj, T.cl, T.n_sites, sn_sites, _, rfl, ls, _, _, V.ref a, rfl, rfl, .inl (.inl SP1.sites), at_map rfl ha, a, dxa, _, rfl, hA0, sg_none (by decide +kernel), _, rfl, _, rfl, _, rfl, ?_⟩
    have e : Sq33.House.step h (.move k x u v) = (Sq33.House.set { h with all := h.all ++ [newDeed h k x u v] } k (movedDesk (h.desk k) k (newDeed h k x u v)), ⟨(at_ (h.desk k).has k + 1 : Nat), Sq33.ints [(h.desk k).clock + 1, Sq28.outcome (h.desk k).tree (newDeed h k x u v).move]⟩) :=
      (if_neg n1).trans ((if_neg h2).trans (if_neg (show ¬ 80 ≤ h.all.length by omega)))
    rw [e] at q
    have DK := wh.at hk
    refine ⟨a, h.hands, k, h.all.length, x, u, v, h.desk k, rfl, hA, wh.dk hk, ⟨by show 2 ≤ x; omega, by show x < 64; omega, by show u < 64; omega⟩, fun e' he' => newDeed_stamp wh hk e' (DK.keptAll e' he'), fun H2 z hA2 b2 hz => ?_⟩
    refine q H2 z (k1.trans (Keep.but hA0 b2)) ⟨dx, ls, lm, as, ms, ?_⟩ hz
    have SP2 := SP1.setSite (dk' := (Sq33.House.set { h with all := h.all ++ [newDeed h k x u v] } k (movedDesk (h.desk k) k (newDeed h k x u v))).desk) ha hA2 b2 (fun j => desk_set (h := { h with all := h.all ++ [newDeed h k x u v] }) (by show k < h.desks.length; rw [wh.desks]; exact hk) j)
    have e3 : (h.all ++ [newDeed h k x u v]).length = h.all.length + 1 := by simp
    show SessP CS CN H2 s dx ls lm as ms (h.all ++ [newDeed h k x u v]).length _ _ _
    rw [e3]
    exact SP2
end
end Bt
namespace Bt
open PySem PySem.Spec PyProof.Rows L2
open Sq33 (Deed Desk House Letter Counts at_ most enter)

theorem pr_len {α β : Type} {F : α → β → Prop} {l : List α} {m : List β} (h : PySem.Paired F l m) : l.length = m.length := h.length
section
variable {P : Program} {w : World} {K : PySem.W.Frag} {mg : Str → Option Value} {base : Heap} {CS CN : Addr}

theorem sc_send : FnScope ["session", "numbers", "sender", "receiver", "message"] ["session", "numbers"] (defScope (top 46)) := ⟨rfl, rfl, rfl, by decide +kernel, rfl, by decide +kernel, by decide +kernel⟩
theorem ok_send (D : DefAt K mg "send" (top 46) ["session", "numbers"]) (T : SessT K CN) (cH : CalM P w K mg base 1 CN "has_site" ["self", "number"] (spHas CS CN))
    (c2 : CalM P w K mg base 3 CS "message_for" ["self", "receiver"] (spMessage CS)) (gl : mg "len" = none) (gN : IntG mg "NOT_THERE" (-2)) (gT : IntG mg "TOO_MANY" (-5)) (gM : IntG mg "MOST_MESSAGES" 200) : CalD P w K mg base 4 "send" ["session", "numbers"] (spOp CS CN 3) := by
  refine D.ok sc_send (fun vs H Q E h => ?_) (fun f cdv A outer s H vs Q E hr h => ?_)
  · obtain ⟨s, p, ns, h, c, rfl, _⟩ := h
    rfl
  · obtain ⟨s, p, ns, h, c, rfl, hp, hc, hS, wh, hsm, q⟩ := h
    obtain ⟨k, j, rfl, rfl⟩ : ∃ a b, ns = [a, b] ∧ c = .send a b := by
      match ns, hc with
      | [a, b], hc => exact ⟨a, b, rfl, (Option.some.inj hc).symm⟩
    have nd := sc_send.nd
    refine ⟨_, pss_cons (ps_asg (pv 1) (pg_unl rfl (pgs_cons (pg_name (i := 2) nd rfl (Or.inl rfl)) (pgs_cons (pg_name (i := 3) nd rfl (Or.inl rfl)) pgs_nil))))
      (pss_cons (ps_if (PW.pt (pw_or (pt_not (pt_val (qm cH hr (by decide) (pv 0) (pa_cons (pv 2) pa_nil)))) (pw_or (pt_not (pt_val (qm cH hr (by decide) (pv 0) (pa_cons (pv 3) pa_nil)))) (pw_or1 (pt_cmpR op_eq (pv 2) (pv 3) (nomark _)))))) (pss_one (ps_ret (pe_lst (pa_cons (qg gN) pa_nil)))) pss_nil)
      (pss_cons (ps_if (pt_cmpR op_ge (pe_callB call_len_seq rfl gl PySem.boot_len (pa_cons (pe_fld (pv 0) rfl) pa_nil)) (qg gM) (nomark _)) (pss_one (ps_ret (pe_lst (pa_cons (qg gT) pa_nil)))) pss_nil)
      (pss_cons (ps_set (i := 4) nd rfl (Or.inl rfl) (qm c2 hr (by decide) (pe_ix ix_list (pe_fld (pv 0) rfl) (pv 2) (fun _ _ => rfl)) (pa_cons (pv 3) pa_nil)))
      (pss_cons (ps_fld (pv 0) (pe_op op_cat (pe_fld (pv 0) rfl) (pe_lst (pa_cons (pv 4) pa_nil))) rfl)
      (pss_one (ps_ret (pe_lst (pa_cons (pe_op op_sub (pe_callB call_len_seq rfl gl PySem.boot_len (pa_cons (pe_fld (pv 0) rfl) pa_nil)) pe_int) (pa_cons (pe_callB call_len_seq rfl gl PySem.boot_len (pa_cons (pe_ix ix_tup (pv 4) pe_int (fun _ _ => rfl)) pa_nil)) pa_nil))))))))), ?_⟩
    have bad : ∀ z : Int, Sq33.House.step h (.send k j) = (h, Sq33.says z) → ∀ q, H q = none → Q (.ref q) (upd H q (.lst [.int z])) := fun z e y ny => by
      rw [e] at q
      exact q _ y (Keep.of (same_new ny)) (hS.keepA (same_new ny)) upd_same
    obtain ⟨dx, ls, lm, as, ms, SP⟩ := id hS
    have hml : ms.length = h.letters.length := pr_len SP.lets
    refine ⟨_, rfl, p, _, rfl, .inl (.inl hp), rfl, _, _, rfl, _, _, rfl, rfl, ?_⟩
    refine ⟨_, rfl, s, dx, _, rfl, SP.obj, sn_none (by decide +kernel), _, rfl, s, k, _, _, _, _, rfl, hS, _, rfl, iteND (fun h1 => ?_) (fun h1 => ?_)⟩
    · exact iteT ⟨(by show 1 ≤ sizeLine; decide), bad (-2) (if_pos (.inl (by omega)))⟩
    refine ⟨_, rfl, s, dx, _, rfl, SP.obj, sn_none (by decide +kernel), _, rfl, s, j, _, _, _, _, rfl, hS, _, rfl, iteND (fun h2 => ?_) (fun h2 => ?_)⟩
    · exact iteT ⟨(by show 1 ≤ sizeLine; decide), bad (-2) (if_pos (.inr (.inl (by omega))))⟩
    refine ⟨_, rfl, _, rfl, rfl, _, rfl, iteD (fun h3 => ?_) (fun h3 => ?_)⟩
    · exact ⟨(by show 1 ≤ sizeLine; decide), bad (-2) (if_pos (.inr (.inr (by have := vint h3; omega))))⟩
    have h3' : ¬ k = j := fun z => h3 (by rw [z])
    have n1 : ¬ (h.hands ≤ k ∨ h.hands ≤ j ∨ k = j) := by omega
    refine ⟨_, rfl, s, CN, dx, _, _, rfl, SP.obj, T.cl, T.n_messages, sn_messages, lm, ms, rfl, .inl (.inl (.inl SP.msgs)), _, _, rfl, rfl, _, rfl, iteD (fun h4 => ?_) (fun h4 => ?_)⟩
    · exact ⟨(by show 1 ≤ sizeLine; decide), bad (-5) ((if_neg n1).trans (if_pos (show 200 ≤ h.letters.length by omega)))⟩
    -- message = session.sites[sender].message_for(receiver)
    have hk : k < h.hands := by omega
    obtain ⟨a, ha, hA⟩ := SP.addr hk
    obtain ⟨dxa, c, l, t, f, r, hA0, _⟩ := id hA
    refine ⟨_, rfl, s, CN, dx, _, _, rfl, SP.obj, T.cl, T.n_sites, sn_sites, _, rfl, ls, _, _, V.ref a, rfl, rfl, .inl (.inl SP.sites), at_map rfl ha, a, dxa, _, rfl, hA0, sg_none (by decide +kernel), _, rfl, ?_⟩
    refine ⟨a, h.hands, k, j, h.desk k, rfl, hA, wh.dk hk, by omega, fun H1 z s1 hz _ => ?_⟩
    have SP1 := SP.keepA s1
    -- session.messages = session.messages + [message]
    refine ⟨_, rfl, s, CN, dx, _, _, rfl, SP1.obj, T.cl, T.n_messages, sn_messages, _, rfl, (by show 1 ≤ sizeLine; decide), fun e1 m1 => ?_⟩
    refine ⟨lm, e1, _, _, rfl, rfl, same_new m1 _ _ SP1.msgs, upd_same, ?_, fun e2 m2 => ?_⟩
    · rw [hml]
      have := wh.letLen
      exact len_le (by show _ + 1 ≤ _; omega)
    have s2 : Same H1 (upd (upd H1 e1 (.lst [.ref z])) e2 (.lst (ms ++ [.ref z]))) := (same_new m1).trans (same_new m2)
    have hm2 : upd (upd H1 e1 (.lst [.ref z])) e2 (.lst (ms ++ [.ref z])) e2 = some (.lst (ms ++ [.ref z])) := upd_same
    generalize upd (upd H1 e1 (.lst [.ref z])) e2 (.lst (ms ++ [.ref z])) = H2 at *
    have SP2 := SP1.keepA s2
    have hz2 := hz.keep (Keep.of s2)
    refine ⟨_, rfl, s, CN, dx, _, rfl, SP2.obj, T.cl, T.n_messages, (by show 3 < 1000; decide), ?_⟩
    rw [su_messages]
    have k3 : Keep H2 (upd H2 s (.ins CN dx (sessG ls e2 h.all.length))) := Keep.ins SP2.obj
    have SP3 := SP2.setObj (lm' := e2) (ms' := ms ++ [.ref z]) (n' := h.all.length) (lt' := h.letters ++ [⟨k, j, (h.desk k).has, (h.desk k).clock, h.lacks k j⟩]) hm2 (pr_last SP2.lets hz2)
    have hz3 := hz2.keep k3
    generalize upd H2 s (.ins CN dx (sessG ls e2 h.all.length)) = H3 at *
    -- return [len(session.messages) - 1, len(message[4])]
    obtain ⟨zz, zc, zl, ez, hzz, _, hzl⟩ := hz3
    cases ez
    obtain ⟨vs, hvs, hmv⟩ := hzl
    refine ⟨_, rfl, s, CN, dx, _, _, rfl, SP3.obj, T.cl, T.n_messages, sn_messages, e2, _, rfl, .inl (.inl (.inl SP3.msgs)), _, _, rfl, rfl, _, rfl, z, _, _, V.ref zl, rfl, rfl, .inl (.inl hzz), at_of (j := 4) rfl rfl, zl, vs, rfl, .inl (.inl (.inl hvs)), (by show 2 ≤ sizeLine; decide), fun y ny => ?_⟩
    have e : Sq33.House.step h (.send k j) = ({ h with letters := h.letters ++ [⟨k, j, (h.desk k).has, (h.desk k).clock, h.lacks k j⟩] }, ⟨h.letters.length, [((h.lacks k j).length : Int)]⟩) :=
      (if_neg n1).trans (if_neg (show ¬ 200 ≤ h.letters.length by omega))
    rw [e] at q
    have s4 := same_new (o := .lst [V.int (((ms ++ [V.ref z]).length : Int) - 1), V.int (vs.length : Int)]) ny
    refine q _ y ((Keep.of (s1.trans s2)).trans (k3.trans (Keep.of s4))) ⟨dx, ls, e2, as, _, SP3.keepA s4⟩ ?_
    have e1 : ((ms ++ [V.ref z]).length : Int) - 1 = (h.letters.length : Int) := by
      rw [List.length_append, hml]
      simp
    have e2' : vs.length = (h.lacks k j).length := hmv.length
    show upd H3 y (.lst [V.int (((ms ++ [V.ref z]).length : Int) - 1), V.int (vs.length : Int)]) y = _
    rw [upd_same, e1, e2']
    rfl

theorem sc_deliver : FnScope ["session", "numbers", "message"] ["session", "numbers"] (defScope (top 47)) := ⟨rfl, rfl, rfl, by decide +kernel, rfl, by decide +kernel, by decide +kernel⟩
theorem ok_deliver (D : DefAt K mg "deliver" (top 47) ["session", "numbers"]) (T : SessT K CN)
    (c2 : CalM P w K mg base 3 CS "take_message" ["self", "message"] (spTake CS)) (gl : mg "len" = none) (gN : IntG mg "NOT_THERE" (-2)) : CalD P w K mg base 4 "deliver" ["session", "numbers"] (spOp CS CN 4) := by
  refine D.ok sc_deliver (fun vs H Q E h => ?_) (fun f cdv A outer s H vs Q E hr h => ?_)
  · obtain ⟨s, p, ns, h, c, rfl, _⟩ := h
    rfl
  · obtain ⟨s, p, ns, h, c, rfl, hp, hc, hS, wh, hsm, q⟩ := h
    obtain ⟨i, rfl, rfl⟩ : ∃ a, ns = [a] ∧ c = .comes a := by
      match ns, hc with
      | [a], hc => exact ⟨a, rfl, (Option.some.inj hc).symm⟩
    have nd := sc_deliver.nd
    refine ⟨_, pss_cons (ps_if (pt_cmpR op_ge (pe_ix ix_list (pv 1) pe_int (fun _ _ => rfl)) (pe_callB call_len_seq rfl gl PySem.boot_len (pa_cons (pe_fld (pv 0) rfl) pa_nil)) (nomark _)) (pss_one (ps_ret (pe_lst (pa_cons (qg gN) pa_nil)))) pss_nil)
      (pss_cons (ps_set (i := 2) nd rfl (Or.inl rfl) (pe_ix ix_list (pe_fld (pv 0) rfl) (pe_ix ix_list (pv 1) pe_int (fun _ _ => rfl)) (fun _ _ => rfl)))
      (pss_one (ps_ret (pe_lst (pa_cons (qm c2 hr (by decide) (pe_ix ix_list (pe_fld (pv 0) rfl) (pe_ix ix_tup (pv 2) pe_int (fun _ _ => rfl)) (fun _ _ => rfl)) (pa_cons (pv 2) pa_nil)) pa_nil))))), ?_⟩
    obtain ⟨dx, ls, lm, as, ms, SP⟩ := id hS
    have hml : ms.length = h.letters.length := pr_len SP.lets
    refine ⟨_, rfl, p, _, _, vN i, rfl, rfl, .inl (.inl hp), at_of (j := 0) rfl rfl, _, rfl, s, CN, dx, _, _, rfl, SP.obj, T.cl, T.n_messages, sn_messages, lm, ms, rfl, .inl (.inl (.inl SP.msgs)), _, _, rfl, rfl, _, rfl, iteD (fun h1 => ?_) (fun h1 => ?_)⟩
    · refine ⟨(by show 1 ≤ sizeLine; decide), fun y ny => ?_⟩
      have e : Sq33.House.step h (.comes i) = (h, Sq33.says (-2)) := by
        show (match h.letters[i]? with | none => (h, Sq33.says (-2)) | some m => _) = _
        rw [List.getElem?_eq_none (by omega)]
      rw [e] at q
      exact q _ y (Keep.of (same_new ny)) (hS.keepA (same_new ny)) upd_same
    have hi : i < h.letters.length := by omega
    obtain ⟨m, hm⟩ : ∃ m, h.letters[i]? = some m := ⟨_, List.getElem?_eq_getElem hi⟩
    have e : Sq33.House.step h (.comes i) = (h.set m.to ((h.desk m.to).gets m), Sq33.says (m.deeds.filter fun d => !(h.desk m.to).was d).length) := by
      show (match h.letters[i]? with | none => (h, Sq33.says (-2)) | some m => (h.set m.to ((h.desk m.to).gets m), Sq33.says (m.deeds.filter fun d => !(h.desk m.to).was d).length)) = _
      rw [hm]
    rw [e] at q
    have mm : m ∈ h.letters := List.mem_of_getElem? hm
    have M := wh.letters m mm
    obtain ⟨v, hv, hL⟩ := pr_get SP.lets hm
    obtain ⟨za, zc, zl, rfl, hza, _, _⟩ := id hL
    -- message = session.messages[numbers[0]]
    refine ⟨_, rfl, s, CN, dx, _, _, rfl, SP.obj, T.cl, T.n_messages, sn_messages, _, rfl, p, _, _, vN i, rfl, rfl, .inl (.inl hp), at_of (j := 0) rfl rfl, lm, ms, _, _, rfl, rfl, .inl (.inl SP.msgs), at_of rfl hv, ?_⟩
    -- return [session.sites[message[1]].take_message(message)]
    obtain ⟨a, ha, hA⟩ := SP.addr M.to
    obtain ⟨dxa, c, l, t, f, r, hA0, _⟩ := id hA
    have DK := wh.at M.to
    have AD := added_ne wh DK M
    refine ⟨_, rfl, s, CN, dx, _, _, rfl, SP.obj, T.cl, T.n_sites, sn_sites, _, rfl, za, _, _, vN m.to, rfl, rfl, .inl (.inl hza), at_of (j := 1) rfl rfl, ls, _, _, V.ref a, rfl, rfl, .inl (.inl SP.sites), at_map rfl ha, a, dxa, _, rfl, hA0, sg_none (by decide +kernel), _, rfl, ?_⟩
    refine ⟨a, _, h.hands, m.to, h.desk m.to, m, rfl, hA, wh.dk M.to, hL, M.frm, M.has, fun d hd => (wh.deed d (M.deedsAll d hd)).desk, wh.short M.deeds M.deedsAll, AD.1, AD.2, fun H1 hA1 b1 => ?_⟩
    refine ⟨(by show 1 ≤ sizeLine; decide), fun y ny => ?_⟩
    have SP1 := SP.setSite (dk' := (h.set m.to ((h.desk m.to).gets m)).desk) ha hA1 b1 (fun j => desk_set (by rw [wh.desks]; exact M.to) j)
    exact q _ y ((Keep.but hA0 b1).trans (Keep.of (same_new ny))) ⟨dx, ls, lm, as, ms, SP1.keepA (same_new ny)⟩ upd_same

theorem sc_compact2 : FnScope ["session", "numbers"] ["session", "numbers"] (defScope (top 48)) := ⟨rfl, rfl, rfl, by decide +kernel, rfl, by decide +kernel, by decide +kernel⟩
theorem ok_compact2 (D : DefAt K mg "compact" (top 48) ["session", "numbers"]) (T : SessT K CN) (cH : CalM P w K mg base 1 CN "has_site" ["self", "number"] (spHas CS CN))
    (c2 : CalM P w K mg base 5 CS "compact_log" ["self"] (spCompact CS)) (gN : IntG mg "NOT_THERE" (-2)) : CalD P w K mg base 6 "compact" ["session", "numbers"] (spOp CS CN 5) := by
  refine D.ok sc_compact2 (fun vs H Q E h => ?_) (fun f cdv A outer s H vs Q E hr h => ?_)
  · obtain ⟨s, p, ns, h, c, rfl, _⟩ := h
    rfl
  · obtain ⟨s, p, ns, h, c, rfl, hp, hc, hS, wh, hsm, q⟩ := h
    obtain ⟨k, rfl, rfl⟩ : ∃ a, ns = [a] ∧ c = .forget a := by
      match ns, hc with
      | [a], hc => exact ⟨a, rfl, (Option.some.inj hc).symm⟩
    refine ⟨_, pss_cons (ps_if (pt_not (pt_val (qm cH hr (by decide) (pv 0) (pa_cons (pe_ix ix_list (pv 1) pe_int (fun _ _ => rfl)) pa_nil)))) (pss_one (ps_ret (pe_lst (pa_cons (qg gN) pa_nil)))) pss_nil)
      (pss_one (ps_ret (qm0 c2 hr (by decide) (pe_ix ix_list (pe_fld (pv 0) rfl) (pe_ix ix_list (pv 1) pe_int (fun _ _ => rfl)) (fun _ _ => rfl))))), ?_⟩
    obtain ⟨dx, ls, lm, as, ms, SP⟩ := id hS
    refine ⟨_, rfl, s, dx, _, rfl, SP.obj, sn_none (by decide +kernel), _, rfl, p, _, _, vN k, rfl, rfl, .inl (.inl hp), at_of (j := 0) rfl rfl, s, k, _, _, _, _, rfl, hS, _, rfl, iteND (fun h1 => ?_) (fun h1 => ?_)⟩
    · refine ⟨(by show 1 ≤ sizeLine; decide), fun y ny => ?_⟩
      have e : Sq33.House.step h (.forget k) = (h, Sq33.says (-2)) := if_pos (by omega)
      rw [e] at q
      exact q _ y (Keep.of (same_new ny)) (hS.keepA (same_new ny)) upd_same
    have hk : k < h.hands := by omega
    have e : Sq33.House.step h (.forget k) = (h.set k ((h.desk k).forgets (h.ripe k)), ⟨(h.ripe k).length, [(((h.desk k).gone + (h.ripe k).length : Nat) : Int)]⟩) := if_neg (by omega)
    rw [e] at q
    obtain ⟨a, ha, hA⟩ := SP.addr hk
    obtain ⟨dxa, c, l, t, f, r, hA0, _⟩ := id hA
    refine ⟨_, rfl, s, CN, dx, _, _, rfl, SP.obj, T.cl, T.n_sites, sn_sites, _, rfl, p, _, _, vN k, rfl, rfl, .inl (.inl hp), at_of (j := 0) rfl rfl, ls, _, _, V.ref a, rfl, rfl, .inl (.inl SP.sites), at_map rfl ha, a, dxa, _, rfl, hA0, sg_none (by decide +kernel), ?_⟩
    refine ⟨a, h.hands, k, h.desk k, rfl, hA, wh.dk hk, fun H1 y hA1 b1 hy => ?_⟩
    have SP1 := SP.setSite (dk' := (h.set k ((h.desk k).forgets (h.ripe k))).desk) ha hA1 b1 (fun j => desk_set (by rw [wh.desks]; exact hk) j)
    exact q _ y (Keep.but hA0 b1) ⟨dx, ls, lm, as, ms, SP1⟩ hy

theorem told_len (l : List (Sq28.Place × Nat)) : (l.flatMap fun x => [x.1.thing, x.2, x.1.label]).length = 3 * l.length := by
  induction l with
  | nil => rfl
  | cons e l ih =>
    rw [List.flatMap_cons, List.length_append, ih]
    simp
    omega
theorem told_res (t : Sq28.Tree) (x : Nat) : (resOf (Sq33.told (Sq28.all t x))).map V.int = (outl t x).map vN := by
  show V.int ((Sq28.all t x).length : Int) :: ((((Sq28.all t x).flatMap fun x => [x.1.thing, x.2, x.1.label]).map Int.ofNat).map V.int) = _
  unfold outl
  rw [List.map_map, List.map_cons]
  rfl
theorem told_small {t : Sq28.Tree} {x : Nat} (h : (resOf (Sq33.told (Sq28.all t x))).length ≤ 1000000) : (Sq28.all t x).length ≤ 400000 := by
  have e : (resOf (Sq33.told (Sq28.all t x))).length = 3 * (Sq28.all t x).length + 1 := by
    show (((Sq28.all t x).flatMap fun x => [x.1.thing, x.2, x.1.label]).map Int.ofNat).length + 1 = _
    rw [List.length_map, told_len]
  rw [e] at h
  omega

theorem sc_root : FnScope ["session", "numbers"] ["session", "numbers"] (defScope (top 49)) := ⟨rfl, rfl, rfl, by decide +kernel, rfl, by decide +kernel, by decide +kernel⟩
theorem ok_root (D : DefAt K mg "tree_below_root" (top 49) ["session", "numbers"]) (T : SessT K CN) (cH : CalM P w K mg base 1 CN "has_site" ["self", "number"] (spHas CS CN))
    (c1 : CalD P w K mg base 3 "outline_of" ["tree", "top"] spOutline) (c2 : CalM P w K mg base 5 CS "tree_now" ["self"] (spTree CS)) (gN : IntG mg "NOT_THERE" (-2)) (gR : IntG mg "ROOT" 0) : CalD P w K mg base 6 "tree_below_root" ["session", "numbers"] (spOp CS CN 6) := by
  refine D.ok sc_root (fun vs H Q E h => ?_) (fun f cdv A outer s H vs Q E hr h => ?_)
  · obtain ⟨s, p, ns, h, c, rfl, _⟩ := h
    rfl
  · obtain ⟨s, p, ns, h, c, rfl, hp, hc, hS, wh, hsm, q⟩ := h
    obtain ⟨k, rfl, rfl⟩ : ∃ a, ns = [a] ∧ c = .tree a := by
      match ns, hc with
      | [a], hc => exact ⟨a, rfl, (Option.some.inj hc).symm⟩
    refine ⟨_, pss_cons (ps_if (pt_not (pt_val (qm cH hr (by decide) (pv 0) (pa_cons (pe_ix ix_list (pv 1) pe_int (fun _ _ => rfl)) pa_nil)))) (pss_one (ps_ret (pe_lst (pa_cons (qg gN) pa_nil)))) pss_nil)
      (pss_one (ps_ret (qc c1 hr (by decide) rfl (pa_cons (qm0 c2 hr (by decide) (pe_ix ix_list (pe_fld (pv 0) rfl) (pe_ix ix_list (pv 1) pe_int (fun _ _ => rfl)) (fun _ _ => rfl))) (pa_cons (qg gR) pa_nil))))), ?_⟩
    obtain ⟨dx, ls, lm, as, ms, SP⟩ := id hS
    refine ⟨_, rfl, s, dx, _, rfl, SP.obj, sn_none (by decide +kernel), _, rfl, p, _, _, vN k, rfl, rfl, .inl (.inl hp), at_of (j := 0) rfl rfl, s, k, _, _, _, _, rfl, hS, _, rfl, iteND (fun h1 => ?_) (fun h1 => ?_)⟩
    · refine ⟨(by show 1 ≤ sizeLine; decide), fun y ny => ?_⟩
      have e : Sq33.House.step h (.tree k) = (h, Sq33.says (-2)) := if_pos (by omega)
      rw [e] at q
      exact q _ y (Keep.of (same_new ny)) (hS.keepA (same_new ny)) upd_same
    have hk : k < h.hands := by omega
    have e : Sq33.House.step h (.tree k) = (h, Sq33.told (Sq28.all (h.desk k).tree 0)) := if_neg (by omega)
    rw [e] at q hsm
    obtain ⟨a, ha, hA⟩ := SP.addr hk
    obtain ⟨dxa, c, l, t, f, r, hA0, _⟩ := id hA
    refine ⟨_, rfl, s, CN, dx, _, _, rfl, SP.obj, T.cl, T.n_sites, sn_sites, _, rfl, p, _, _, vN k, rfl, rfl, .inl (.inl hp), at_of (j := 0) rfl rfl, ls, _, _, V.ref a, rfl, rfl, .inl (.inl SP.sites), at_map rfl ha, a, dxa, _, rfl, hA0, sg_none (by decide +kernel), ?_⟩
    refine ⟨a, h.hands, k, h.desk k, rfl, hA, wh.dk hk, fun H1 b s1 hb => ?_⟩
    refine ⟨b, 0, (h.desk k).tree, rfl, hb, wh.tree hk, told_small hsm, fun H2 y s2 hy => ?_⟩
    refine q H2 y (Keep.of (s1.trans s2)) (hS.keepA (s1.trans s2)) ?_
    rw [told_res]
    exact hy

theorem sc_bin : FnScope ["session", "numbers"] ["session", "numbers"] (defScope (top 50)) := ⟨rfl, rfl, rfl, by decide +kernel, rfl, by decide +kernel, by decide +kernel⟩
theorem ok_bin (D : DefAt K mg "tree_below_bin" (top 50) ["session", "numbers"]) (T : SessT K CN) (cH : CalM P w K mg base 1 CN "has_site" ["self", "number"] (spHas CS CN))
    (c1 : CalD P w K mg base 3 "outline_of" ["tree", "top"] spOutline) (c2 : CalM P w K mg base 5 CS "tree_now" ["self"] (spTree CS)) (gN : IntG mg "NOT_THERE" (-2)) (gB : IntG mg "BIN" 1) : CalD P w K mg base 6 "tree_below_bin" ["session", "numbers"] (spOp CS CN 7) := by
  refine D.ok sc_bin (fun vs H Q E h => ?_) (fun f cdv A outer s H vs Q E hr h => ?_)
  · obtain ⟨s, p, ns, h, c, rfl, _⟩ := h
    rfl
  · obtain ⟨s, p, ns, h, c, rfl, hp, hc, hS, wh, hsm, q⟩ := h
    obtain ⟨k, rfl, rfl⟩ : ∃ a, ns = [a] ∧ c = .bin a := by
      match ns, hc with
      | [a], hc => exact ⟨a, rfl, (Option.some.inj hc).symm⟩
    refine ⟨_, pss_cons (ps_if (pt_not (pt_val (qm cH hr (by decide) (pv 0) (pa_cons (pe_ix ix_list (pv 1) pe_int (fun _ _ => rfl)) pa_nil)))) (pss_one (ps_ret (pe_lst (pa_cons (qg gN) pa_nil)))) pss_nil)
      (pss_one (ps_ret (qc c1 hr (by decide) rfl (pa_cons (qm0 c2 hr (by decide) (pe_ix ix_list (pe_fld (pv 0) rfl) (pe_ix ix_list (pv 1) pe_int (fun _ _ => rfl)) (fun _ _ => rfl))) (pa_cons (qg gB) pa_nil))))), ?_⟩
    obtain ⟨dx, ls, lm, as, ms, SP⟩ := id hS
    refine ⟨_, rfl, s, dx, _, rfl, SP.obj, sn_none (by decide +kernel), _, rfl, p, _, _, vN k, rfl, rfl, .inl (.inl hp), at_of (j := 0) rfl rfl, s, k, _, _, _, _, rfl, hS, _, rfl, iteND (fun h1 => ?_) (fun h1 => ?_)⟩
    · refine ⟨(by show 1 ≤ sizeLine; decide), fun y ny => ?_⟩
      have e : Sq33.House.step h (.bin k) = (h, Sq33.says (-2)) := if_pos (by omega)
      rw [e] at q
      exact q _ y (Keep.of (same_new ny)) (hS.keepA (same_new ny)) upd_same
    have hk : k < h.hands := by omega
    have e : Sq33.House.step h (.bin k) = (h, Sq33.told (Sq28.all (h.desk k).tree 1)) := if_neg (by omega)
    rw [e] at q hsm
    obtain ⟨a, ha, hA⟩ := SP.addr hk
    obtain ⟨dxa, c, l, t, f, r, hA0, _⟩ := id hA
    refine ⟨_, rfl, s, CN, dx, _, _, rfl, SP.obj, T.cl, T.n_sites, sn_sites, _, rfl, p, _, _, vN k, rfl, rfl, .inl (.inl hp), at_of (j := 0) rfl rfl, ls, _, _, V.ref a, rfl, rfl, .inl (.inl SP.sites), at_map rfl ha, a, dxa, _, rfl, hA0, sg_none (by decide +kernel), ?_⟩
    refine ⟨a, h.hands, k, h.desk k, rfl, hA, wh.dk hk, fun H1 b s1 hb => ?_⟩
    refine ⟨b, 1, (h.desk k).tree, rfl, hb, wh.tree hk, told_small hsm, fun H2 y s2 hy => ?_⟩
    refine q H2 y (Keep.of (s1.trans s2)) (hS.keepA (s1.trans s2)) ?_
    rw [told_res]
    exact hy
end
end Bt
namespace Bt
open PySem PySem.Spec PyProof.Rows L2
open Sq33 (Deed Desk House Letter Counts at_ most enter)

theorem ints_dp {K : PySem.W.Frag} {H : Hp} : ∀ ns : List Int, DpAll K H (ns.map V.int) (ns.map PyData.int)
  | [] => .nil
  | n :: ns => .cons (.int n) (ints_dp ns)
theorem ints_lay : ∀ ns : List Int, PyData.canLayAll0 (ns.map PyData.int) = true ∧ PyData.depthAll (ns.map PyData.int) = 0
  | [] => ⟨rfl, rfl⟩
  | n :: ns => by
    have h := ints_lay ns
    refine ⟨?_, ?_⟩
    · show (true && PyData.canLayAll0 _) = true
      rw [h.1]
      rfl
    · show max 0 (PyData.depthAll _) = 0
      rw [h.2]
      rfl
theorem ints_shaped (ns : List Int) : SeqAt.shaped (.list (ns.map PyData.int)) = true := by
  have h := ints_lay ns
  unfold SeqAt.shaped
  have h1 : PyData.canLay0 (.list (ns.map PyData.int)) = true := h.1
  have h2 : PyData.depth (.list (ns.map PyData.int)) = 1 := by
    show PyData.depthAll _ + 1 = 1
    rw [h.2]
  rw [h1, h2]
  rfl
theorem ints_eqvAll : ∀ l m : List Int, PyData.eqvAll (l.map PyData.int) (m.map PyData.int) = decide (l = m)
  | [], [] => rfl
  | [], b :: m => rfl
  | a :: l, [] => rfl
  | a :: l, b :: m => by
    show ((a == b) && PyData.eqvAll (l.map PyData.int) (m.map PyData.int)) = _
    rw [ints_eqvAll l m]
    by_cases h : a = b
    · subst h
      by_cases h2 : l = m
      · subst h2
        simp
      · simp [h2]
    · simp [h]
theorem ints_eqv (l m : List Int) : PyData.eqv (.list (l.map PyData.int)) (.list (m.map PyData.int)) = decide (l = m) := ints_eqvAll l m
def encT (t : Sq28.Tree) : PyData := .tuple [.list ((pars t).map PyData.int), .list ((labs t).map PyData.int)]
theorem tree_dp {K : PySem.W.Frag} {H : Hp} {a : Addr} {t : Sq28.Tree} (h : TrAt H a t) : Dp K H (.ref a) (encT t) := by
  obtain ⟨p, l, h0, h1, h2⟩ := h
  exact .tup (.inl (.inl h0)) (.cons (.lst (.inl (.inl h1)) (ints_dp _)) (.cons (.lst (.inl (.inl h2)) (ints_dp _)) .nil))
theorem tree_shaped (t : Sq28.Tree) : SeqAt.shaped (encT t) = true := by
  have h1 := ints_lay (pars t)
  have h2 := ints_lay (labs t)
  unfold SeqAt.shaped
  have c : PyData.canLay0 (encT t) = true := by
    simp only [encT, PyData.canLay0, PyData.canLayAll0, h1.1, h2.1, Bool.and_true]
  have d : PyData.depth (encT t) = 2 := by
    simp only [encT, PyData.depth, PyData.depthAll, h1.2, h2.2]
    rfl
  rw [c, d]
  rfl
theorem tree_eqv {t u : Sq28.Tree} (w : WF t) (v : WF u) : PyData.eqv (encT t) (encT u) = decide (t = u) := by
  show (PyData.eqvAll _ _ && (PyData.eqvAll _ _ && true)) = _
  rw [ints_eqvAll, ints_eqvAll, Bool.and_true]
  by_cases h : t = u
  · subst h
    simp
  · rw [decide_eq_false h]
    by_cases h1 : pars t = pars u
    · by_cases h2 : labs t = labs u
      · exact absurd (tree_eq w v h1 h2) h
      · simp [h2]
    · simp [h1]
theorem nats_ints (l : List Nat) : l.map vN = (l.map Int.ofNat).map V.int := by
  rw [List.map_map]
  rfl
theorem ofNat_inj {l m : List Nat} : decide (l.map Int.ofNat = m.map Int.ofNat) = decide (l = m) := by
  by_cases h : l = m
  · subst h
    simp
  · rw [decide_eq_false h, decide_eq_false]
    intro e
    exact h ((List.map_inj_right (fun a b q => Int.ofNat.inj q)).mp e)

section
variable {P : Program} {w : World} {K : PySem.W.Frag} {mg : Str → Option Value} {base : Heap} {CS CN : Addr}

theorem sc_log : FnScope ["session", "numbers", "moves", "found", "one"] ["session", "numbers"] (defScope (top 51)) := ⟨rfl, rfl, rfl, by decide +kernel, rfl, by decide +kernel, by decide +kernel⟩
theorem ok_log (D : DefAt K mg "log_of" (top 51) ["session", "numbers"]) (T : SessT K CN) (TS : SiteT K CS) (cH : CalM P w K mg base 1 CN "has_site" ["self", "number"] (spHas CS CN))
    (gl : mg "len" = none) (gN : IntG mg "NOT_THERE" (-2)) (gR : IntG mg "REPLICA" 1) (gU : IntG mg "NUMBER" 2) : CalD P w K mg base 2 "log_of" ["session", "numbers"] (spOp CS CN 8) := by
  refine D.ok sc_log (fun vs H Q E h => ?_) (fun f cdv A outer s H vs Q E hr h => ?_)
  · obtain ⟨s, p, ns, h, c, rfl, _⟩ := h
    rfl
  · obtain ⟨s, p, ns, h, c, rfl, hp, hc, hS, wh, hsm, q⟩ := h
    obtain ⟨k, rfl, rfl⟩ : ∃ a, ns = [a] ∧ c = .kept a := by
      match ns, hc with
      | [a], hc => exact ⟨a, rfl, (Option.some.inj hc).symm⟩
    have nd := sc_log.nd
    refine ⟨_, pss_cons (ps_if (pt_not (pt_val (qm cH hr (by decide) (pv 0) (pa_cons (pe_ix ix_list (pv 1) pe_int (fun _ _ => rfl)) pa_nil)))) (pss_one (ps_ret (pe_lst (pa_cons (qg gN) pa_nil)))) pss_nil)
      (pss_cons (ps_set (i := 2) nd rfl (Or.inl rfl) (pe_fld (pe_ix ix_list (pe_fld (pv 0) rfl) (pe_ix ix_list (pv 1) pe_int (fun _ _ => rfl)) (fun _ _ => rfl)) rfl))
      (pss_cons (ps_set (i := 3) nd rfl (Or.inl rfl) (pe_lst (pa_cons (pe_callB call_len_seq rfl gl PySem.boot_len (pa_cons (pv 2) pa_nil)) pa_nil)))
      (pss_cons (ps_for PassesOwn.never rfl (pi_list (pv 2)) (pg_name (i := 4) nd rfl (Or.inl rfl))
        (pss_one (ps_expr (pe_bm PySem.F.plainAttrs_list PySem.F.slot_list_extend PySem.F.type_list_extend mt_extend (pv 3)
          (pa_cons (pe_lst (pa_cons (pe_ix ix_tup (pv 4) (qg gR) (fun _ _ => rfl)) (pa_cons (pe_ix ix_tup (pv 4) (qg gU) (fun _ _ => rfl)) pa_nil))) pa_nil)))))
      (pss_one (ps_ret (pv 3)))))), ?_⟩
    obtain ⟨dx, ls, lm, as, ms, SP⟩ := id hS
    refine ⟨_, rfl, s, dx, _, rfl, SP.obj, sn_none (by decide +kernel), _, rfl, p, _, _, vN k, rfl, rfl, .inl (.inl hp), at_of (j := 0) rfl rfl, s, k, _, _, _, _, rfl, hS, _, rfl, iteND (fun h1 => ?_) (fun h1 => ?_)⟩
    · refine ⟨(by show 1 ≤ sizeLine; decide), fun y ny => ?_⟩
      have e : Sq33.House.step h (.kept k) = (h, Sq33.says (-2)) := if_pos (by omega)
      rw [e] at q
      exact q _ y (Keep.of (same_new ny)) (hS.keepA (same_new ny)) upd_same
    have hk : k < h.hands := by omega
    have e : Sq33.House.step h (.kept k) = (h, ⟨(h.desk k).kept.length, Sq33.ints ((h.desk k).kept.flatMap fun d => [d.desk, d.n])⟩) := if_neg (by omega)
    rw [e] at q
    obtain ⟨a, ha, hA⟩ := SP.addr hk
    obtain ⟨dxa, c, l, t, f, r, hA0, sd⟩ := id hA
    obtain ⟨us, hl, hus⟩ := id sd.log
    have hul : us.length = (h.desk k).kept.length := pr_len hus
    have h80 := (wh.dk hk).len
    refine ⟨_, rfl, s, CN, dx, _, _, rfl, SP.obj, T.cl, T.n_sites, sn_sites, _, rfl, p, _, _, vN k, rfl, rfl, .inl (.inl hp), at_of (j := 0) rfl rfl, ls, _, _, V.ref a, rfl, rfl, .inl (.inl SP.sites), at_map rfl ha, a, CS, dxa, _, _, rfl, hA0, TS.cl, TS.n_log, sg_log, ?_⟩
    refine ⟨_, rfl, l, us, rfl, .inl (.inl (.inl hl)), (by show 1 ≤ sizeLine; decide), fun pf nf => ?_⟩
    refine ⟨_, rfl, l, rfl, ⟨_, .inl (.inl (same_new nf _ _ hl))⟩, for_list (K := K) (a := l) (xs := us) (fun i σ H' => ∃ o : Option V, σ = [some (.ref s), some (.ref p), some (.ref l), some (.ref pf), o] ∧ Same H H' ∧ H' pf = some (.lst (((h.desk k).kept.length :: (((h.desk k).kept.take i).flatMap fun d => [d.desk, d.n])).map vN)))
      ⟨none, rfl, same_new nf, by rw [upd_same, hul]; rfl⟩ (fun i σ H' _ h => by obtain ⟨_, _, h, _⟩ := h; exact .inl (.inl (h _ _ hl))) ?_ ?_⟩
    · rintro i v σ H' hi ⟨o, rfl, s2, hf⟩
      obtain ⟨d, hd, m, rfl, hm⟩ := pr_got hus hi
      have hm2 := s2 _ _ hm
      refine ⟨_, rfl, .inl ⟨rfl, _, .inl (.inl hf)⟩, _, rfl, m, _, _, vN d.desk, rfl, rfl, .inl (.inl hm2), at_of (j := 1) rfl rfl, _, rfl, m, _, _, vN d.n, rfl, rfl, .inl (.inl hm2), at_of (j := 2) rfl rfl, (by show 2 ≤ sizeLine; decide), fun pn npn => ?_⟩
      have hf2 := same_new (o := .lst [vN d.desk, vN d.n]) npn _ _ hf
      refine ⟨pf, pn, _, _, rfl, rfl, hf2, upd_same, ?_, _, rfl, same_mut (s2.trans (same_new npn)) nf, ?_⟩
      · have h2 : ∀ L : List Deed, (L.flatMap fun d => [d.desk, d.n]).length = 2 * L.length := by
          intro L
          induction L with
          | nil => rfl
          | cons e L ih =>
            rw [List.flatMap_cons, List.length_append, ih]
            simp
            omega
        rw [List.length_map, List.length_cons, h2, List.length_take]
        exact len_le (by show _ + 1 + 2 ≤ _; omega)
      · rw [upd_same, take_more hd, List.flatMap_append]
        simp [List.map_append]
    · rintro σ H' ⟨o, rfl, s2, hf⟩
      rw [hul, List.take_length] at hf
      refine ⟨_, rfl, q H' pf (Keep.of s2) (hS.keepA s2) ?_⟩
      rw [hf, nats_ints]
      rfl

theorem sc_hor : FnScope ["session", "numbers", "site"] ["session", "numbers"] (defScope (top 52)) := ⟨rfl, rfl, rfl, by decide +kernel, rfl, by decide +kernel, by decide +kernel⟩
theorem ok_hor (D : DefAt K mg "horizon_of" (top 52) ["session", "numbers"]) (T : SessT K CN) (TS : SiteT K CS) (cH : CalM P w K mg base 1 CN "has_site" ["self", "number"] (spHas CS CN))
    (c2 : CalM P w K mg base 2 CS "horizon_now" ["self"] (spHorizon CS)) (gN : IntG mg "NOT_THERE" (-2)) : CalD P w K mg base 3 "horizon_of" ["session", "numbers"] (spOp CS CN 9) := by
  refine D.ok sc_hor (fun vs H Q E h => ?_) (fun f cdv A outer s H vs Q E hr h => ?_)
  · obtain ⟨s, p, ns, h, c, rfl, _⟩ := h
    rfl
  · obtain ⟨s, p, ns, h, c, rfl, hp, hc, hS, wh, hsm, q⟩ := h
    obtain ⟨k, rfl, rfl⟩ : ∃ a, ns = [a] ∧ c = .settled a := by
      match ns, hc with
      | [a], hc => exact ⟨a, rfl, (Option.some.inj hc).symm⟩
    have nd := sc_hor.nd
    refine ⟨_, pss_cons (ps_if (pt_not (pt_val (qm cH hr (by decide) (pv 0) (pa_cons (pe_ix ix_list (pv 1) pe_int (fun _ _ => rfl)) pa_nil)))) (pss_one (ps_ret (pe_lst (pa_cons (qg gN) pa_nil)))) pss_nil)
      (pss_cons (ps_set (i := 2) nd rfl (Or.inl rfl) (pe_ix ix_list (pe_fld (pv 0) rfl) (pe_ix ix_list (pv 1) pe_int (fun _ _ => rfl)) (fun _ _ => rfl)))
      (pss_one (ps_ret (pe_op op_cat (pe_lst (pa_cons (qm0 c2 hr (by decide) (pv 2)) pa_nil)) (pe_fld (pv 2) rfl))))), ?_⟩
    obtain ⟨dx, ls, lm, as, ms, SP⟩ := id hS
    refine ⟨_, rfl, s, dx, _, rfl, SP.obj, sn_none (by decide +kernel), _, rfl, p, _, _, vN k, rfl, rfl, .inl (.inl hp), at_of (j := 0) rfl rfl, s, k, _, _, _, _, rfl, hS, _, rfl, iteND (fun h1 => ?_) (fun h1 => ?_)⟩
    · refine ⟨(by show 1 ≤ sizeLine; decide), fun y ny => ?_⟩
      have e : Sq33.House.step h (.settled k) = (h, Sq33.says (-2)) := if_pos (by omega)
      rw [e] at q
      exact q _ y (Keep.of (same_new ny)) (hS.keepA (same_new ny)) upd_same
    have hk : k < h.hands := by omega
    have e : Sq33.House.step h (.settled k) = (h, ⟨h.settled k, Sq33.ints (h.desk k).has⟩) := if_neg (by omega)
    rw [e] at q
    obtain ⟨a, ha, hA⟩ := SP.addr hk
    obtain ⟨dxa, c, l, t, f, r, hA0, sd⟩ := id hA
    have dk := wh.dk hk
    refine ⟨_, rfl, s, CN, dx, _, _, rfl, SP.obj, T.cl, T.n_sites, sn_sites, _, rfl, p, _, _, vN k, rfl, rfl, .inl (.inl hp), at_of (j := 0) rfl rfl, ls, _, _, V.ref a, rfl, rfl, .inl (.inl SP.sites), at_map rfl ha, ?_⟩
    refine ⟨_, rfl, a, dxa, _, rfl, hA0, sg_none (by decide +kernel), a, h.hands, k, h.desk k, rfl, hA, dk, fun H1 s1 => ⟨(by show 1 ≤ sizeLine; decide), fun e1 m1 => ?_⟩⟩
    have s2 : Same H (upd H1 e1 (.lst [vN (settledOf h.hands k (h.desk k))])) := s1.trans (same_new m1)
    refine ⟨_, rfl, a, CS, dxa, _, _, rfl, s2 _ _ hA0, TS.cl, TS.n_counts, sg_counts, e1, c, _, _, rfl, rfl, upd_same, s2 _ _ sd.has, ?_, fun y ny => ?_⟩
    · rw [List.length_map, dk.has]
      have := wh.hi
      exact len_le (by show 1 + _ ≤ _; omega)
    · refine q _ y (Keep.of (s2.trans (same_new ny))) (hS.keepA (s2.trans (same_new ny))) ?_
      rw [upd_same, nats_ints]
      rfl

theorem sc_cpt : FnScope ["session", "numbers"] ["session", "numbers"] (defScope (top 53)) := ⟨rfl, rfl, rfl, by decide +kernel, rfl, by decide +kernel, by decide +kernel⟩
theorem ok_cpt (D : DefAt K mg "compactable" (top 53) ["session", "numbers"]) (T : SessT K CN) (cH : CalM P w K mg base 1 CN "has_site" ["self", "number"] (spHas CS CN))
    (c2 : CalM P w K mg base 3 CS "many_compactable" ["self"] (spMany CS)) (gN : IntG mg "NOT_THERE" (-2)) : CalD P w K mg base 4 "compactable" ["session", "numbers"] (spOp CS CN 10) := by
  refine D.ok sc_cpt (fun vs H Q E h => ?_) (fun f cdv A outer s H vs Q E hr h => ?_)
  · obtain ⟨s, p, ns, h, c, rfl, _⟩ := h
    rfl
  · obtain ⟨s, p, ns, h, c, rfl, hp, hc, hS, wh, hsm, q⟩ := h
    obtain ⟨k, rfl, rfl⟩ : ∃ a, ns = [a] ∧ c = .ripe a := by
      match ns, hc with
      | [a], hc => exact ⟨a, rfl, (Option.some.inj hc).symm⟩
    refine ⟨_, pss_cons (ps_if (pt_not (pt_val (qm cH hr (by decide) (pv 0) (pa_cons (pe_ix ix_list (pv 1) pe_int (fun _ _ => rfl)) pa_nil)))) (pss_one (ps_ret (pe_lst (pa_cons (qg gN) pa_nil)))) pss_nil)
      (pss_one (ps_ret (pe_lst (pa_cons (qm0 c2 hr (by decide) (pe_ix ix_list (pe_fld (pv 0) rfl) (pe_ix ix_list (pv 1) pe_int (fun _ _ => rfl)) (fun _ _ => rfl))) pa_nil)))), ?_⟩
    obtain ⟨dx, ls, lm, as, ms, SP⟩ := id hS
    refine ⟨_, rfl, s, dx, _, rfl, SP.obj, sn_none (by decide +kernel), _, rfl, p, _, _, vN k, rfl, rfl, .inl (.inl hp), at_of (j := 0) rfl rfl, s, k, _, _, _, _, rfl, hS, _, rfl, iteND (fun h1 => ?_) (fun h1 => ?_)⟩
    · refine ⟨(by show 1 ≤ sizeLine; decide), fun y ny => ?_⟩
      have e : Sq33.House.step h (.ripe k) = (h, Sq33.says (-2)) := if_pos (by omega)
      rw [e] at q
      exact q _ y (Keep.of (same_new ny)) (hS.keepA (same_new ny)) upd_same
    have hk : k < h.hands := by omega
    have e : Sq33.House.step h (.ripe k) = (h, Sq33.says (h.ripe k).length) := if_neg (by omega)
    rw [e] at q
    obtain ⟨a, ha, hA⟩ := SP.addr hk
    obtain ⟨dxa, c, l, t, f, r, hA0, sd⟩ := id hA
    refine ⟨_, rfl, s, CN, dx, _, _, rfl, SP.obj, T.cl, T.n_sites, sn_sites, _, rfl, p, _, _, vN k, rfl, rfl, .inl (.inl hp), at_of (j := 0) rfl rfl, ls, _, _, V.ref a, rfl, rfl, .inl (.inl SP.sites), at_map rfl ha, a, dxa, _, rfl, hA0, sg_none (by decide +kernel), ?_⟩
    refine ⟨a, h.hands, k, h.desk k, rfl, hA, wh.dk hk, fun H1 s1 => ⟨(by show 1 ≤ sizeLine; decide), fun y ny => ?_⟩⟩
    exact q _ y (Keep.of (s1.trans (same_new ny))) (hS.keepA (s1.trans (same_new ny))) upd_same

theorem sc_cmp : FnScope ["session", "numbers", "one", "other"] ["session", "numbers"] (defScope (top 54)) := ⟨rfl, rfl, rfl, by decide +kernel, rfl, by decide +kernel, by decide +kernel⟩
theorem ok_cmp (D : DefAt K mg "compare" (top 54) ["session", "numbers"]) (T : SessT K CN) (TS : SiteT K CS) (cH : CalM P w K mg base 1 CN "has_site" ["self", "number"] (spHas CS CN))
    (c2 : CalM P w K mg base 5 CS "tree_now" ["self"] (spTree CS)) (gi : mg "int" = none) (gN : IntG mg "NOT_THERE" (-2)) : CalD P w K mg base 6 "compare" ["session", "numbers"] (spOp CS CN 11) := by
  refine D.ok sc_cmp (fun vs H Q E h => ?_) (fun f cdv A outer s H vs Q E hr h => ?_)
  · obtain ⟨s, p, ns, h, c, rfl, _⟩ := h
    rfl
  · obtain ⟨s, p, ns, h, c, rfl, hp, hc, hS, wh, hsm, q⟩ := h
    obtain ⟨k, j, rfl, rfl⟩ : ∃ a b, ns = [a, b] ∧ c = .same a b := by
      match ns, hc with
      | [a, b], hc => exact ⟨a, b, rfl, (Option.some.inj hc).symm⟩
    have nd := sc_cmp.nd
    refine ⟨_, pss_cons (ps_if (PW.pt (pw_or (pt_not (pt_val (qm cH hr (by decide) (pv 0) (pa_cons (pe_ix ix_list (pv 1) pe_int (fun _ _ => rfl)) pa_nil)))) (pw_or1 (pt_not (pt_val (qm cH hr (by decide) (pv 0) (pa_cons (pe_ix ix_list (pv 1) pe_int (fun _ _ => rfl)) pa_nil))))))) (pss_one (ps_ret (pe_lst (pa_cons (qg gN) pa_nil)))) pss_nil)
      (pss_cons (ps_par (i := 2) (j := 3) (by rfl) nd rfl rfl (by decide) rfl rfl (pa_cons (pe_ix ix_list (pe_fld (pv 0) rfl) (pe_ix ix_list (pv 1) pe_int (fun _ _ => rfl)) (fun _ _ => rfl)) (pa_cons (pe_ix ix_list (pe_fld (pv 0) rfl) (pe_ix ix_list (pv 1) pe_int (fun _ _ => rfl)) (fun _ _ => rfl)) pa_nil)) (by rfl))
      (pss_one (ps_ret (pe_lst (pa_cons (pe_callTy call_int1 rfl gi (by decide +kernel) (pa_cons (pe_cmpR (op_eqD hr.units) (pe_fld (pv 2) rfl) (pe_fld (pv 3) rfl) (nomark _)) pa_nil))
        (pa_cons (pe_callTy call_int1 rfl gi (by decide +kernel) (pa_cons (pe_cmpR (op_eqD hr.units) (qm0 c2 hr (by decide) (pv 2)) (qm0 c2 hr (by decide) (pv 3)) (nomark _)) pa_nil)) pa_nil)))))), ?_⟩
    obtain ⟨dx, ls, lm, as, ms, SP⟩ := id hS
    have bad : (h.hands ≤ k ∨ h.hands ≤ j) → ∀ q, H q = none → Q (.ref q) (upd H q (.lst [.int (-2)])) := fun hb y ny => by
      have e : Sq33.House.step h (.same k j) = (h, Sq33.says (-2)) := if_pos hb
      rw [e] at q
      exact q _ y (Keep.of (same_new ny)) (hS.keepA (same_new ny)) upd_same
    refine ⟨_, rfl, s, dx, _, rfl, SP.obj, sn_none (by decide +kernel), _, rfl, p, _, _, vN k, rfl, rfl, .inl (.inl hp), at_of (j := 0) rfl rfl, s, k, _, _, _, _, rfl, hS, _, rfl, iteND (fun h1 => ?_) (fun h1 => ?_)⟩
    · exact iteT ⟨(by show 1 ≤ sizeLine; decide), bad (.inl (by omega))⟩
    refine ⟨_, rfl, s, dx, _, rfl, SP.obj, sn_none (by decide +kernel), _, rfl, p, _, _, vN j, rfl, rfl, .inl (.inl hp), at_of (j := 1) rfl rfl, s, j, _, _, _, _, rfl, hS, _, rfl, iteND (fun h2 => ?_) (fun h2 => ?_)⟩
    · exact ⟨(by show 1 ≤ sizeLine; decide), bad (.inr (by omega))⟩
    have e : Sq33.House.step h (.same k j) = (h, ⟨if (h.desk k).has = (h.desk j).has then 1 else 0, [if (h.desk k).tree = (h.desk j).tree then 1 else 0]⟩) := if_neg (by omega)
    rw [e] at q
    obtain ⟨a, ha, hA⟩ := SP.addr h1
    obtain ⟨dxa, c, l, t, f, r, hA0, sd⟩ := id hA
    obtain ⟨b, hb, hB⟩ := SP.addr h2
    obtain ⟨dxb, c', l', t', f', r', hB0, sd'⟩ := id hB
    refine ⟨_, rfl, s, CN, dx, _, _, rfl, SP.obj, T.cl, T.n_sites, sn_sites, _, rfl, p, _, _, vN k, rfl, rfl, .inl (.inl hp), at_of (j := 0) rfl rfl, ls, _, _, V.ref a, rfl, rfl, .inl (.inl SP.sites), at_map rfl ha,
      _, rfl, s, CN, dx, _, _, rfl, SP.obj, T.cl, T.n_sites, sn_sites, _, rfl, p, _, _, vN j, rfl, rfl, .inl (.inl hp), at_of (j := 1) rfl rfl, ls, _, _, V.ref b, rfl, rfl, .inl (.inl SP.sites), at_map rfl hb, _, _, rfl, ?_⟩
    have e1 : H c = some (.lst (((h.desk k).has.map Int.ofNat).map V.int)) := by rw [← nats_ints]; exact sd.has
    have e2 : H c' = some (.lst (((h.desk j).has.map Int.ofNat).map V.int)) := by rw [← nats_ints]; exact sd'.has
    refine ⟨_, rfl, a, CS, dxa, _, _, rfl, hA0, TS.cl, TS.n_counts, sg_counts, _, rfl, b, CS, dxb, _, _, rfl, hB0, TS.cl, TS.n_counts, sg_counts, _, _, .lst (.inl (.inl e1)) (ints_dp _), .lst (.inl (.inl e2)) (ints_dp _), ints_shaped _, ints_shaped _, .inr ⟨_, rfl, ?_⟩⟩
    rw [ints_eqv, ofNat_inj]
    refine ⟨_, rfl, a, dxa, _, rfl, hA0, sg_none (by decide +kernel), a, h.hands, k, h.desk k, rfl, hA, wh.dk h1, fun H1 t1 s1 ht1 => ?_⟩
    refine ⟨_, rfl, b, dxb, _, rfl, s1 _ _ hB0, sg_none (by decide +kernel), b, h.hands, j, h.desk j, rfl, hB.keepA s1, wh.dk h2, fun H2 t2 s2 ht2 => ?_⟩
    refine ⟨_, _, tree_dp (ht1.keep (Keep.of s2)), tree_dp ht2, tree_shaped _, tree_shaped _, .inr ⟨_, rfl, ?_⟩⟩
    rw [tree_eqv (wh.tree h1) (wh.tree h2)]
    refine ⟨(by show 2 ≤ sizeLine; decide), fun y ny => ?_⟩
    refine q _ y (Keep.of ((s1.trans s2).trans (same_new ny))) (hS.keepA ((s1.trans s2).trans (same_new ny))) ?_
    rw [upd_same]
    show some (HO.lst [V.int (if decide ((h.desk k).has = (h.desk j).has) = true then 1 else 0), V.int (if decide ((h.desk k).tree = (h.desk j).tree) = true then 1 else 0)]) = some (HO.lst [V.int (if (h.desk k).has = (h.desk j).has then 1 else 0), V.int (if (h.desk k).tree = (h.desk j).tree then 1 else 0)])
    simp only [decide_eq_true_eq]
end
end Bt
namespace Bt
open PySem PySem.Spec PyProof.Rows L2

/-! ## a call over a heap from which a list of the caller's own is taken: it comes back as it was -/
def frameSp (sp : Sp) : Sp := fun vs H Q E => ∃ (pf : Addr) (xs : List V) (H0 : Hp), H0 pf = none ∧ H = upd H0 pf (.lst xs) ∧ sp vs H0 (fun v H' => H' pf = none → Q v (upd H' pf (.lst xs))) E
theorem frame_fn {P : Program} {w : World} {K : PySem.W.Frag} {mg : Str → Option Value} {base : Heap} {k : Nat} {f : Addr} {fd : FuncData} {ps : List Str} {sp : Sp} (F : FnOk P w K mg base CX0 k f fd ps sp) : FnOk P w K mg base CX0 k f fd ps (frameSp sp) := by
  refine ⟨fun vs H Q E h => ?_, fun A outer s H args us vs Q E hr he hb hv hs => ?_⟩
  · obtain ⟨pf, xs, H0, _, _, h⟩ := h
    exact F.len _ _ _ _ h
  · obtain ⟨pf, xs, H0, hn, rfl, hsp⟩ := hs
    have un1 : ∀ b, upd H0 pf (.lst xs) b = none → b ≠ pf ∧ H0 b = none := fun b e => by
      by_cases q : b = pf
      · rw [q, upd_same] at e
        cases e
      · rw [upd_ne q] at e
        exact ⟨q, e⟩
    have ne0 : ∀ b o, H0 b = some o → b ≠ pf := fun b o e q => by
      rw [q, hn] at e
      cases e
    have he0 : Env0 P w K mg base A outer s H0 := by
      refine ⟨he.frames, he.mod, fun b o e => ⟨(he.bs b o e).1, (un1 b (he.bs b o e).2).2⟩, he.bsz, he.funs, fun b hb => (un1 b (he.frf b hb)).2, fun a o e => ?_, he.bare⟩
      have h1 : upd H0 pf (.lst xs) a = some o := by rw [upd_ne (ne0 a o e)]; exact e
      refine (he.hok a o h1).stay (fun b u _ q => q) (fun b q => ?_) fun b ys q => ?_
      · by_cases z : b = pf
        · rw [z, upd_same] at q
          cases q
        · rw [upd_ne z] at q
          exact q
      · by_cases z : b = pf
        · rw [z, upd_same] at q
          cases q
        · rw [upd_ne z] at q
          exact q
    refine codeAny_mono (F.run A outer s H0 args us vs _ E hr he0 hb hv hsp) fun r s' hr' => ?_
    cases r with
    | error e => exact hr'
    | ok fl =>
      cases fl with
      | next => exact hr'
      | brk => exact hr'
      | cont => exact hr'
      | ret u =>
        obtain ⟨v, H', os, bare, un, hok, rv, q⟩ := hr'
        obtain ⟨z, its, n, ri, ho⟩ := he.hok pf (.lst xs) upd_same
        have hfr : pf ∉ frs outer := fun m => by
          have := he.frf pf m
          rw [upd_same] at this
          cases this
        have hn' : H' pf = none := un.free pf _ ho hn (by simp)
        have ho' := un.keep pf _ ho hn hfr (by simp)
        have ne1 : ∀ b o, H' b = some o → b ≠ pf := fun b o e q => by
          rw [q, hn'] at e
          cases e
        have some0 : ∀ b o, upd H0 pf (.lst xs) b = some o → o ≠ .lst xs → H0 b = some o := fun b o e d => by
          by_cases q : b = pf
          · rw [q, upd_same] at e
            exact absurd (Option.some.inj e).symm d
          · rw [upd_ne q] at e
            exact e
        refine ⟨v, upd H' pf (.lst xs), os, bare, ?_, ?_, rv, q hn'⟩
        · refine ⟨fun b o e n1 h1 h2 => un.keep b o e (un1 b n1).2 h1 h2, fun b o e n1 h1 h2 => un.slot b o e (un1 b n1).2 h1 h2, fun b o e n1 h2 => ?_, un.there, fun b ys e => ?_, fun b o u e => ?_, fun b ps e => ?_⟩
          · rw [upd_ne (un1 b n1).1]
            exact un.free b o e (un1 b n1).2 h2
          · have h1 := un.tups b ys (some0 b _ e (by intro z; cases z))
            rw [upd_ne (ne1 b _ h1)]
            exact h1
          · have h1 := un.frzs b o u (some0 b _ e (by intro z; cases z))
            rw [upd_ne (ne1 b _ h1)]
            exact h1
          · obtain ⟨more, h1⟩ := un.tbls b ps (some0 b _ e (by intro z; cases z))
            exact ⟨more, by rw [upd_ne (ne1 b _ h1)]; exact h1⟩
        · intro a o e
          by_cases qa : a = pf
          · subst qa
            rw [upd_same] at e
            cases e
            exact ⟨z, its, n, ri, ho'⟩
          · rw [upd_ne qa] at e
            refine (hok a o e).stay (fun b u _ q => q) (fun b q => ?_) fun b ys q => ?_
            · rw [upd_ne (ne1 b _ q)]
              exact q
            · rw [upd_ne (ne1 b _ q)]
              exact q
theorem CalD.frame {P : Program} {w : World} {K : PySem.W.Frag} {mg : Str → Option Value} {base : Heap} {k : Nat} {x : Str} {ps : List Str} {sp : Sp} (c : CalD P w K mg base k x ps sp) : CalD P w K mg base k x ps (frameSp sp) := by
  obtain ⟨f, fd, F, hm, kp, b⟩ := c.ex
  exact ⟨f, fd, frame_fn F, hm, kp, b⟩
end Bt
namespace Bt
open Sq33 (House)

/-- a call as it is handed in: its number, its numbers, the specification's call -/
structure Cl where
  op : Nat
  args : List Nat
  call : Sq33.Call
def flat1 (e : Cl) : List Int := (e.op : Int) :: e.args.map Int.ofNat
def flatC (cl : List Cl) : List Int := cl.flatMap flat1
def ClOk (e : Cl) : Prop := callIs e.op e.args = some e.call
def rawOf (e : Cl) : List (List Int) := [flat1 e]
def many : List Nat := [0, 1, 4, 2, 1, 1, 1, 1, 1, 1, 1, 2]

theorem ok_forms {op : Nat} {args : List Nat} {c : Sq33.Call} (h : callIs op args = some c) : 1 ≤ op ∧ op ≤ 11 ∧ many[op]? = some args.length ∧ PySq33.whole [(op : Int) :: args.map Int.ofNat] = [(op : Int) :: args.map Int.ofNat] ∧ Sq33Neutral.callOf [(op : Int) :: args.map Int.ofNat] = some c := by
  unfold callIs at h
  split at h <;> first
    | (cases h; exact ⟨by decide, by decide, rfl, rfl, rfl⟩)
    | cases h
theorem ints_back : ∀ {l : List Int}, (∀ z ∈ l, 0 ≤ z) → (l.map Int.toNat).map Int.ofNat = l
  | [], _ => rfl
  | z :: l, h => by
    rw [List.map_cons, List.map_cons, ints_back fun y hy => h y (List.mem_cons_of_mem _ hy)]
    have := h z List.mem_cons_self
    rw [show Int.ofNat z.toNat = z from Int.toNat_of_nonneg this]
theorem shape_forms {p : Int} {n k : Nat} (h : PySq33.shape p = some (n, k)) : k = 0 ∧ ∃ op : Nat, p = (op : Int) ∧ ∀ args : List Nat, args.length = n → ∃ c, callIs op args = some c := by
  unfold PySq33.shape at h
  have one : ∀ (op : Nat) (f : Nat → Sq33.Call), (∀ a, callIs op [a] = some (f a)) → ∀ args : List Nat, args.length = 1 → ∃ c, callIs op args = some c := fun op f hf args hl => by
    match args, hl with
    | [a], _ => exact ⟨_, hf a⟩
  have two : ∀ (op : Nat) (f : Nat → Nat → Sq33.Call), (∀ a b, callIs op [a, b] = some (f a b)) → ∀ args : List Nat, args.length = 2 → ∃ c, callIs op args = some c := fun op f hf args hl => by
    match args, hl with
    | [a, b], _ => exact ⟨_, hf a b⟩
  split at h
  · rename_i e; cases h; exact ⟨rfl, 1, e, one 1 _ fun a => rfl⟩
  split at h
  · rename_i e
    cases h
    refine ⟨rfl, 2, e, fun args hl => ?_⟩
    match args, hl with
    | [a, b, c, d], _ => exact ⟨_, rfl⟩
  split at h
  · rename_i e; cases h; exact ⟨rfl, 3, e, two 3 _ fun a b => rfl⟩
  split at h
  · rename_i e; cases h; exact ⟨rfl, 4, e, one 4 _ fun a => rfl⟩
  split at h
  · rename_i e; cases h; exact ⟨rfl, 5, e, one 5 _ fun a => rfl⟩
  split at h
  · rename_i e; cases h; exact ⟨rfl, 6, e, one 6 _ fun a => rfl⟩
  split at h
  · rename_i e; cases h; exact ⟨rfl, 7, e, one 7 _ fun a => rfl⟩
  split at h
  · rename_i e; cases h; exact ⟨rfl, 8, e, one 8 _ fun a => rfl⟩
  split at h
  · rename_i e; cases h; exact ⟨rfl, 9, e, one 9 _ fun a => rfl⟩
  split at h
  · rename_i e; cases h; exact ⟨rfl, 10, e, one 10 _ fun a => rfl⟩
  split at h
  · rename_i e; cases h; exact ⟨rfl, 11, e, two 11 _ fun a b => rfl⟩
  cases h
theorem parse : ∀ (f : Nat) (l : List Int) (raw : List (List (List Int))), PyFlat.calls PySq33.shape f l = some raw → (∀ z ∈ l, 0 ≤ z) → ∃ cl : List Cl, l = flatC cl ∧ (∀ e ∈ cl, ClOk e) ∧ raw = cl.map rawOf
  | 0, [], raw, h, _ => ⟨[], rfl, by simp, by simpa [PyFlat.calls] using h.symm⟩
  | f + 1, [], raw, h, _ => ⟨[], rfl, by simp, by simpa [PyFlat.calls] using h.symm⟩
  | 0, p :: r, raw, h, _ => by simp [PyFlat.calls] at h
  | f + 1, p :: r, raw, h, hz => by
    unfold PyFlat.calls at h
    cases hs : PySq33.shape p with
    | none =>
      simp [PyFlat.call, hs] at h
    | some nk =>
      obtain ⟨n, k⟩ := nk
      obtain ⟨rfl, op, rfl, hop⟩ := shape_forms hs
      by_cases hl : r.length < n
      · simp [PyFlat.call, hs, hl] at h
      · simp only [PyFlat.call, hs, hl, if_false, PyFlat.rows] at h
        cases hc : PyFlat.calls PySq33.shape f (r.drop n) with
        | none =>
          rw [hc] at h
          cases h
        | some cs =>
          rw [hc] at h
          have h := Option.some.inj h
          have hz2 : ∀ z ∈ r, 0 ≤ z := fun z m => hz z (List.mem_cons_of_mem _ m)
          obtain ⟨cl, e1, e2, e3⟩ := parse f (r.drop n) cs hc fun z m => hz2 z (List.mem_of_mem_drop m)
          have ht : ((r.take n).map Int.toNat).map Int.ofNat = r.take n := ints_back fun z m => hz2 z (List.mem_of_mem_take m)
          obtain ⟨c, hcall⟩ := hop ((r.take n).map Int.toNat) (by rw [List.length_map, List.length_take]; omega)
          refine ⟨⟨op, (r.take n).map Int.toNat, c⟩ :: cl, ?_, fun e he => ?_, ?_⟩
          · unfold flatC at e1 ⊢
            rw [List.flatMap_cons, ← e1]
            show _ = ((op : Int) :: ((r.take n).map Int.toNat).map Int.ofNat) ++ r.drop n
            rw [ht, List.cons_append, List.take_append_drop]
          · rcases List.mem_cons.mp he with rfl | he
            · exact hcall
            · exact e2 e he
          · rw [← h, e3, List.map_cons]
            show _ = [(op : Int) :: ((r.take n).map Int.toNat).map Int.ofNat] :: _
            rw [ht]

/-! ## the specification, call by call -/
def runC : House → List Cl → List (List Int)
  | _, [] => []
  | h, e :: r => resOf (Sq33.House.step h e.call).2 :: runC (Sq33.House.step h e.call).1 r
def hAt (h : House) (cl : List Cl) (i : Nat) : House := (cl.take i).foldl (fun h e => (Sq33.House.step h e.call).1) h
theorem runC_len : ∀ (cl : List Cl) (h : House), (runC h cl).length = cl.length
  | [], _ => rfl
  | e :: r, h => by
    show (runC _ r).length + 1 = r.length + 1
    rw [runC_len r]
theorem runC_get : ∀ {cl : List Cl} {h : House} {i : Nat} {e : Cl}, cl[i]? = some e → (runC h cl)[i]? = some (resOf (Sq33.House.step (hAt h cl i) e.call).2)
  | [], _, _, _, q => by simp at q
  | a :: r, h, 0, e, q => by
    have : a = e := by simpa using q
    subst this
    rfl
  | a :: r, h, i + 1, e, q => runC_get (cl := r) (h := (Sq33.House.step h a.call).1) (i := i) (by simpa using q)
theorem hAt_next {cl : List Cl} {h : House} {i : Nat} {e : Cl} (q : cl[i]? = some e) : hAt h cl (i + 1) = (Sq33.House.step (hAt h cl i) e.call).1 := by
  unfold hAt
  rw [take_more q, List.foldl_append]
  rfl
theorem hAt_ok (cl : List Cl) (i : Nat) : HouseOk (hAt Sq33.fresh cl i) := by
  unfold hAt
  have : ∀ (l : List Cl) (h : House), HouseOk h → HouseOk (l.foldl (fun h e => (Sq33.House.step h e.call).1) h) := by
    intro l
    induction l with
    | nil => exact fun _ w => w
    | cons e l ih => exact fun h w => ih _ (w.step e.call)
  exact this _ _ houseOk_fresh
theorem step_raw {e : Cl} (h : ClOk e) (s : House) : Sq33Neutral.step s (rawOf e) = ((Sq33.House.step s e.call).1, resOf (Sq33.House.step s e.call).2) := by
  have := (ok_forms h).2.2.2.2
  unfold Sq33Neutral.step
  rw [show Sq33Neutral.callOf (rawOf e) = some e.call from this]
  rfl
theorem played_is : ∀ (cl : List Cl) (s : House), (∀ e ∈ cl, ClOk e) → PyFlat.played Sq33Neutral.step s (cl.map rawOf) = runC s cl
  | [], _, _ => rfl
  | e :: r, s, h => by
    rw [List.map_cons]
    unfold PyFlat.played runC
    rw [step_raw (h e List.mem_cons_self), played_is r _ fun x hx => h x (List.mem_cons_of_mem _ hx)]
def lens (l : List (List Int)) : Nat := (l.map List.length).sum
theorem outs_is : ∀ (cl : List Cl) (s : House), (∀ e ∈ cl, ClOk e) → Sq33Neutral.outs s (cl.map rawOf) = lens (runC s cl)
  | [], _, _ => rfl
  | e :: r, s, h => by
    rw [List.map_cons]
    unfold Sq33Neutral.outs runC lens
    dsimp only
    rw [step_raw (h e List.mem_cons_self), outs_is r _ fun x hx => h x (List.mem_cons_of_mem _ hx), List.map_cons, List.sum_cons]
    rfl
theorem told_lens (l : List (List Int)) : (PyFlat.told l).length = l.length + lens l := by
  unfold PyFlat.told lens
  induction l with
  | nil => rfl
  | cons a l ih =>
    rw [List.flatMap_cons, List.length_append, ih, List.map_cons, List.sum_cons]
    simp
    omega
theorem lens_take (l : List (List Int)) (i : Nat) : lens (l.take i) ≤ lens l := by
  unfold lens
  induction l generalizing i with
  | nil => simp
  | cons a l ih =>
    cases i with
    | zero => simp
    | succ i =>
      rw [List.take_succ_cons, List.map_cons, List.map_cons, List.sum_cons, List.sum_cons]
      have := ih i
      omega
theorem lens_get {l : List (List Int)} {i : Nat} {a : List Int} (h : l[i]? = some a) : a.length ≤ lens l := by
  unfold lens
  induction l generalizing i with
  | nil => simp at h
  | cons b l ih =>
    rw [List.map_cons, List.sum_cons]
    cases i with
    | zero =>
      have : b = a := by simpa using h
      subst this
      omega
    | succ i =>
      have := ih (i := i) (by simpa using h)
      omega
theorem told_more {l : List (List Int)} {i : Nat} {a : List Int} (h : l[i]? = some a) : PyFlat.told (l.take (i + 1)) = PyFlat.told (l.take i) ++ (a.length : Int) :: a := by
  unfold PyFlat.told
  rw [take_more h, List.flatMap_append]
  simp
structure Asked (ns : List Int) (cl : List Cl) : Prop where
  flat : ns = flatC cl
  ok : ∀ e ∈ cl, ClOk e
  ans : PySq33.answers ns = PyFlat.told (runC Sq33.fresh cl)
  few : cl.length ≤ 250
  small : lens (runC Sq33.fresh cl) < 1000000
theorem asked_of {ns : List Int} (ha : PySq33.answers_asked ns = true) (hz : ∀ z ∈ ns, 0 ≤ z) : ∃ cl, Asked ns cl := by
  unfold PySq33.answers_asked at ha
  cases hc : PyFlat.calls PySq33.shape ns.length ns with
  | none =>
    rw [hc] at ha
    cases ha
  | some raw =>
    rw [hc] at ha
    simp only [Bool.and_eq_true] at ha
    obtain ⟨⟨⟨⟨_, h1⟩, _⟩, h2⟩, _⟩ := ha
    obtain ⟨cl, e1, e2, e3⟩ := parse _ _ _ hc hz
    have ew : raw.map PySq33.whole = cl.map rawOf := by
      rw [e3, List.map_map]
      refine List.map_congr_left fun e he => ?_
      exact (ok_forms (e2 e he)).2.2.2.1
    rw [ew] at h2
    unfold Sq33Neutral.asked at h2
    simp only [Bool.and_eq_true, decide_eq_true_eq] at h2
    obtain ⟨_, h3, _, h4⟩ := h2
    rw [show Sq33Neutral.outs Sq33Neutral.start (cl.map rawOf) = lens (runC Sq33.fresh cl) from outs_is cl _ e2] at h4
    refine ⟨cl, e1, e2, ?_, by rw [List.length_map] at h3; exact h3, h4⟩
    unfold PySq33.answers PySq33.calls
    rw [hc]
    dsimp only
    rw [ew]
    show PyFlat.told (PyFlat.played Sq33Neutral.step Sq33.fresh (cl.map rawOf)) = _
    rw [played_is cl _ e2]
end Bt
namespace Bt
open PySem PySem.Spec PyProof.Rows L2
open Sq33 (Deed Desk House Letter Counts at_ most enter)

/-! ## answered -/
def spAnswered (CS CN : Addr) : Sp := fun vs H Q _ => ∃ (s p : Addr) (op : Nat) (ns : List Nat) (h : House) (c : Sq33.Call), vs = [.ref s, vN op, .ref p] ∧ CtAt H p ns ∧ callIs op ns = some c ∧ SessAt CS CN H s h ∧ HouseOk h ∧ (resOf (Sq33.House.step h c).2).length ≤ 1000000 ∧
  ∀ H' q, Keep H H' → SessAt CS CN H' s (Sq33.House.step h c).1 → H' q = some (.lst ((resOf (Sq33.House.step h c).2).map V.int)) → Q (.ref q) H'
def ClAt (H : Hp) (v : V) (e : Cl) : Prop := ∃ a b, v = .ref a ∧ H a = some (.tup [vN e.op, .ref b]) ∧ CtAt H b e.args
def spSplit (K : PySem.W.Frag) : Sp := fun vs H Q _ => ∃ (a : Addr) (ns : List Int) (cl : List Cl), vs = [.ref a] ∧ SqL K H a (ns.map V.int) ∧ ns = flatC cl ∧ (∀ e ∈ cl, ClOk e) ∧ cl.length ≤ 250 ∧
  ∀ H' p us, Same H H' → H' p = some (.lst us) → PySem.Paired (ClAt H') us cl → Q (.ref p) H'
def spAnswers (K : PySem.W.Frag) : Sp := fun vs H Q _ => ∃ (a : Addr) (ns : List Int) (cl : List Cl), vs = [.ref a] ∧ SqL K H a (ns.map V.int) ∧ Asked ns cl ∧
  ∀ H' p, H' p = some (.lst ((PySq33.answers ns).map V.int)) → Q (.ref p) H'
/-- a written tuple under a name of the module -/
def TupG (K : PySem.W.Frag) (mg : Str → Option Value) (x : Str) (vs : List V) : Prop := ∃ (a : Addr) (o : Obj) (its : Array Value) (n : Nat), mg x = some (.ref a) ∧ K.lookup a = some o ∧ o.cls = .type "tuple" ∧ o.data = .seq its n ∧ its.size ≤ sizeLine ∧ Vals vs its.toList

theorem flat_at {cl : List Cl} {i : Nat} {e : Cl} (h : cl[i]? = some e) : flatC cl = flatC (cl.take i) ++ (flat1 e ++ flatC (cl.drop (i + 1))) := by
  obtain ⟨h1, e1⟩ := List.getElem?_eq_some_iff.mp h
  have e2 : cl = cl.take i ++ e :: cl.drop (i + 1) := by
    rw [← e1, ← List.drop_eq_getElem_cons h1, List.take_append_drop]
  unfold flatC
  conv => lhs; rw [e2]
  rw [List.flatMap_append, List.flatMap_cons]
theorem flat_next {cl : List Cl} {i : Nat} {e : Cl} (h : cl[i]? = some e) : (flatC (cl.take (i + 1))).length = (flatC (cl.take i)).length + 1 + e.args.length := by
  rw [take_more h]
  unfold flatC
  rw [List.flatMap_append, List.length_append]
  simp [flat1]
  omega
theorem ClAt.keep {H H' : Hp} (k : Keep H H') {v : V} {e : Cl} (h : ClAt H v e) : ClAt H' v e := by
  obtain ⟨a, b, e1, h1, h2⟩ := h
  exact ⟨a, b, e1, k.tup h1, h2.keep k⟩

section
variable {P : Program} {w : World} {K : PySem.W.Frag} {mg : Str → Option Value} {base : Heap} {CS CN : Addr}

theorem sc_answered : FnScope ["session", "number", "numbers"] ["session", "number", "numbers"] (defScope (top 57)) := ⟨rfl, rfl, rfl, by decide +kernel, rfl, by decide +kernel, by decide +kernel⟩
theorem ok_answered (D : DefAt K mg "answered" (top 57) ["session", "number", "numbers"])
    (o1 : CalD P w K mg base 5 "begin" ["session", "numbers"] (spOp CS CN 1)) (o2 : CalD P w K mg base 7 "move" ["session", "numbers"] (spOp CS CN 2)) (o3 : CalD P w K mg base 4 "send" ["session", "numbers"] (spOp CS CN 3))
    (o4 : CalD P w K mg base 4 "deliver" ["session", "numbers"] (spOp CS CN 4)) (o5 : CalD P w K mg base 6 "compact" ["session", "numbers"] (spOp CS CN 5)) (o6 : CalD P w K mg base 6 "tree_below_root" ["session", "numbers"] (spOp CS CN 6))
    (o7 : CalD P w K mg base 6 "tree_below_bin" ["session", "numbers"] (spOp CS CN 7)) (o8 : CalD P w K mg base 2 "log_of" ["session", "numbers"] (spOp CS CN 8)) (o9 : CalD P w K mg base 3 "horizon_of" ["session", "numbers"] (spOp CS CN 9))
    (o10 : CalD P w K mg base 4 "compactable" ["session", "numbers"] (spOp CS CN 10)) (o11 : CalD P w K mg base 6 "compare" ["session", "numbers"] (spOp CS CN 11)) :
    CalD P w K mg base 8 "answered" ["session", "number", "numbers"] (spAnswered CS CN) := by
  refine D.ok sc_answered (fun vs H Q E h => ?_) (fun f cdv A outer s H vs Q E hr h => ?_)
  · obtain ⟨s, p, op, ns, h, c, rfl, _⟩ := h
    rfl
  · obtain ⟨s, p, op, ns, h, c, rfl, hp, hc, hS, wh, hsm, q⟩ := h
    refine ⟨_, pss_cons (ps_if (pt_cmpR op_eq (pv 1) pe_int (nomark _)) (pss_one (ps_ret (qc o1 hr (by decide) rfl (pa_cons (pv 0) (pa_cons (pv 2) pa_nil))))) pss_nil)
      (pss_cons (ps_if (pt_cmpR op_eq (pv 1) pe_int (nomark _)) (pss_one (ps_ret (qc o2 hr (by decide) rfl (pa_cons (pv 0) (pa_cons (pv 2) pa_nil))))) pss_nil)
      (pss_cons (ps_if (pt_cmpR op_eq (pv 1) pe_int (nomark _)) (pss_one (ps_ret (qc o3 hr (by decide) rfl (pa_cons (pv 0) (pa_cons (pv 2) pa_nil))))) pss_nil)
      (pss_cons (ps_if (pt_cmpR op_eq (pv 1) pe_int (nomark _)) (pss_one (ps_ret (qc o4 hr (by decide) rfl (pa_cons (pv 0) (pa_cons (pv 2) pa_nil))))) pss_nil)
      (pss_cons (ps_if (pt_cmpR op_eq (pv 1) pe_int (nomark _)) (pss_one (ps_ret (qc o5 hr (by decide) rfl (pa_cons (pv 0) (pa_cons (pv 2) pa_nil))))) pss_nil)
      (pss_cons (ps_if (pt_cmpR op_eq (pv 1) pe_int (nomark _)) (pss_one (ps_ret (qc o6 hr (by decide) rfl (pa_cons (pv 0) (pa_cons (pv 2) pa_nil))))) pss_nil)
      (pss_cons (ps_if (pt_cmpR op_eq (pv 1) pe_int (nomark _)) (pss_one (ps_ret (qc o7 hr (by decide) rfl (pa_cons (pv 0) (pa_cons (pv 2) pa_nil))))) pss_nil)
      (pss_cons (ps_if (pt_cmpR op_eq (pv 1) pe_int (nomark _)) (pss_one (ps_ret (qc o8 hr (by decide) rfl (pa_cons (pv 0) (pa_cons (pv 2) pa_nil))))) pss_nil)
      (pss_cons (ps_if (pt_cmpR op_eq (pv 1) pe_int (nomark _)) (pss_one (ps_ret (qc o9 hr (by decide) rfl (pa_cons (pv 0) (pa_cons (pv 2) pa_nil))))) pss_nil)
      (pss_cons (ps_if (pt_cmpR op_eq (pv 1) pe_int (nomark _)) (pss_one (ps_ret (qc o10 hr (by decide) rfl (pa_cons (pv 0) (pa_cons (pv 2) pa_nil))))) pss_nil)
      (pss_one (ps_ret (qc o11 hr (by decide) rfl (pa_cons (pv 0) (pa_cons (pv 2) pa_nil)))))))))))))), ?_⟩
    have go : ∀ j : Nat, op = j → spOp CS CN j [V.ref s, V.ref p] H Q E0 := fun j e => ⟨s, p, ns, h, c, rfl, hp, by rw [← e]; exact hc, hS, wh, hsm, q⟩
    have fm := ok_forms hc
    refine ⟨_, rfl, rfl, _, rfl, iteD (fun e => ⟨_, rfl, _, rfl, go 1 (by have := vint e; omega)⟩) (fun n1 => ?_)⟩
    refine ⟨_, rfl, rfl, _, rfl, iteD (fun e => ⟨_, rfl, _, rfl, go 2 (by have := vint e; omega)⟩) (fun n2 => ?_)⟩
    refine ⟨_, rfl, rfl, _, rfl, iteD (fun e => ⟨_, rfl, _, rfl, go 3 (by have := vint e; omega)⟩) (fun n3 => ?_)⟩
    refine ⟨_, rfl, rfl, _, rfl, iteD (fun e => ⟨_, rfl, _, rfl, go 4 (by have := vint e; omega)⟩) (fun n4 => ?_)⟩
    refine ⟨_, rfl, rfl, _, rfl, iteD (fun e => ⟨_, rfl, _, rfl, go 5 (by have := vint e; omega)⟩) (fun n5 => ?_)⟩
    refine ⟨_, rfl, rfl, _, rfl, iteD (fun e => ⟨_, rfl, _, rfl, go 6 (by have := vint e; omega)⟩) (fun n6 => ?_)⟩
    refine ⟨_, rfl, rfl, _, rfl, iteD (fun e => ⟨_, rfl, _, rfl, go 7 (by have := vint e; omega)⟩) (fun n7 => ?_)⟩
    refine ⟨_, rfl, rfl, _, rfl, iteD (fun e => ⟨_, rfl, _, rfl, go 8 (by have := vint e; omega)⟩) (fun n8 => ?_)⟩
    refine ⟨_, rfl, rfl, _, rfl, iteD (fun e => ⟨_, rfl, _, rfl, go 9 (by have := vint e; omega)⟩) (fun n9 => ?_)⟩
    refine ⟨_, rfl, rfl, _, rfl, iteD (fun e => ⟨_, rfl, _, rfl, go 10 (by have := vint e; omega)⟩) (fun n10 => ?_)⟩
    have ne : ∀ j : Nat, ¬ V.int (op : Int) = V.int (j : Int) → op ≠ j := fun j n e => n (by rw [e])
    have := ne 1 n1; have := ne 2 n2; have := ne 3 n3; have := ne 4 n4; have := ne 5 n5; have := ne 6 n6; have := ne 7 n7; have := ne 8 n8; have := ne 9 n9; have := ne 10 n10
    exact ⟨_, rfl, _, rfl, go 11 (by omega)⟩

theorem sc_split : FnScope ["calls", "found", "at", "end"] ["calls"] (defScope (top 58)) := ⟨rfl, rfl, rfl, by decide +kernel, rfl, by decide +kernel, by decide +kernel⟩
theorem ok_split (D : DefAt K mg "split_calls" (top 58) ["calls"]) (gl : mg "len" = none) (gM : TupG K mg "MANY_NUMBERS" (many.map vN)) : CalD P w K mg base 1 "split_calls" ["calls"] (spSplit K) := by
  refine D.ok sc_split (fun vs H Q E h => ?_) (fun f cdv A outer s H vs Q E hr h => ?_)
  · obtain ⟨a, ns, cl, rfl, _⟩ := h
    rfl
  · obtain ⟨a, ns, cl, rfl, hS, hns, hok, hfew, q⟩ := h
    obtain ⟨ma, mo, its, mn, gm, ml, m1, m2, m3, m4⟩ := gM
    have sm : ∀ H', SqT K H' ma (many.map vN) := fun H' => .inr ⟨mo, its, mn, ml, m1, m2, m3, m4⟩
    have nd := sc_split.nd
    refine ⟨_, pss_cons (ps_set (i := 1) nd rfl (Or.inl rfl) (pe_lst pa_nil))
      (pss_cons (ps_set (i := 2) nd rfl (Or.inl rfl) pe_int)
      (pss_cons (ps_while PassesOwn.never (pt_cmpR op_lt (pv 2) (pe_callB call_len_seq rfl gl PySem.boot_len (pa_cons (pv 0) pa_nil)) (nomark _))
        (pss_cons (ps_set (i := 3) nd rfl (Or.inl rfl) (pe_op op_add (pe_op op_add (pv 2) pe_int) (pe_ix ix_tup (pe_glob (v := .ref ma) rfl gm rfl) (pe_ix ix_list (pv 0) (pv 2) (fun _ _ => rfl)) (fun _ _ => rfl))))
        (pss_cons (ps_expr (pe_bm PySem.F.plainAttrs_list PySem.F.slot_list_append PySem.F.type_list_append mt_append (pv 1) (pa_cons (pe_tup (pa_cons (pe_ix ix_list (pv 0) (pv 2) (fun _ _ => rfl)) (pa_cons (pe_slice sl_list (pv 0) (po_some (pe_op op_add (pv 2) pe_int)) (po_some (pv 3))) pa_nil))) pa_nil)))
        (pss_one (ps_set (i := 2) nd rfl (Or.inl rfl) (pv 3))))))
      (pss_one (ps_ret (pv 1))))), ?_⟩
    refine ⟨Nat.zero_le _, fun pf nf => ?_⟩
    have wst : ∀ H', Same H H' → SqL K H' a (ns.map V.int) := fun H' s => s.seq hS
    refine ⟨fun m σ H' => ∃ (i : Nat) (us : List V) (oe : Option V), i ≤ cl.length ∧ m = cl.length - i ∧ σ = [some (.ref a), some (.ref pf), some (vN (flatC (cl.take i)).length), oe] ∧ Same H H' ∧ H' pf = some (.lst us) ∧ PySem.Paired (ClAt (Del H' pf)) us (cl.take i),
      ⟨_, 0, [], none, Nat.zero_le _, rfl, rfl, same_new nf, upd_same, .nil⟩, ?_⟩
    rintro m σ H' ⟨i, us, oe, hi, rfl, rfl, s1, hf, hus⟩
    refine ⟨_, rfl, _, rfl, a, _, rfl, .inl (wst H' s1), _, _, rfl, rfl, _, rfl, ?_⟩
    rw [List.length_map]
    by_cases hlt : i < cl.length
    · obtain ⟨e, he⟩ : ∃ e, cl[i]? = some e := ⟨_, List.getElem?_eq_getElem hlt⟩
      have hfl := flat_at he
      have hnx := flat_next he
      have fm := ok_forms (hok e (List.mem_of_getElem? he))
      have hnl : ns.length = (flatC (cl.take i)).length + (1 + e.args.length + (flatC (cl.drop (i + 1))).length) := by
        rw [hns, hfl, List.length_append, List.length_append]
        simp [flat1]
        omega
      have hop : ns[(flatC (cl.take i)).length]? = some (e.op : Int) := by
        rw [hns, hfl, List.getElem?_append_right (Nat.le_refl _), Nat.sub_self]
        rfl
      have hcut : cutV (ns.map V.int) (some (((flatC (cl.take i)).length : Int) + 1)) (some (((flatC (cl.take i)).length : Int) + 1 + (e.args.length : Int))) = e.args.map vN := by
        have ea : (((flatC (cl.take i)).length : Int) + 1) = (((flatC (cl.take i)).length + 1 : Nat) : Int) := by omega
        have eb : (((flatC (cl.take i)).length : Int) + 1 + (e.args.length : Int)) = (((flatC (cl.take i)).length + 1 + e.args.length : Nat) : Int) := by omega
        rw [eb, ea, cut_part _ _ _ (by rw [List.length_map]; omega) (by rw [List.length_map]; omega), ← List.map_drop, ← List.map_take]
        have e3 : (ns.drop ((flatC (cl.take i)).length + 1)).take ((flatC (cl.take i)).length + 1 + e.args.length - ((flatC (cl.take i)).length + 1)) = e.args.map Int.ofNat := by
          rw [hns, hfl]
          have : (flatC (cl.take i) ++ (flat1 e ++ flatC (cl.drop (i + 1)))) = (flatC (cl.take i) ++ [(e.op : Int)]) ++ (e.args.map Int.ofNat ++ flatC (cl.drop (i + 1))) := by
            simp [flat1]
          rw [this, List.drop_left' (by simp), show (flatC (cl.take i)).length + 1 + e.args.length - ((flatC (cl.take i)).length + 1) = e.args.length by omega, List.take_left' (by simp)]
        rw [e3, nats_ints]
      generalize hL : (flatC (cl.take i)).length = L at *
      rw [decide_eq_true (show (L : Int) < (ns.length : Int) by omega)]
      refine iteT ⟨fun σ' H4 => ∃ m', m' < cl.length - i ∧ ∃ (i : Nat) (us : List V) (oe : Option V), i ≤ cl.length ∧ m' = cl.length - i ∧ σ' = [some (.ref a), some (.ref pf), some (vN (flatC (cl.take i)).length), oe] ∧ Same H H4 ∧ H4 pf = some (.lst us) ∧ PySem.Paired (ClAt (Del H4 pf)) us (cl.take i), fun σ' H4 h => h, ?_⟩
      -- end = at + 1 + MANY_NUMBERS[calls[at]]
      refine ⟨_, rfl, _, _, rfl, rfl, _, rfl, _, rfl, a, _, _, .int (e.op : Int), rfl, rfl, wst H' s1, at_map rfl hop, ma, _, _, vN e.args.length, rfl, rfl, sm H', at_map rfl fm.2.2.1, _, _, rfl, rfl, ?_⟩
      -- found.append((calls[at], calls[at + 1:end]))
      refine ⟨_, rfl, .inl ⟨rfl, _, .inl (.inl hf)⟩, _, rfl, _, rfl, a, _, _, .int (e.op : Int), rfl, rfl, wst H' s1, at_map rfl hop, _, rfl, _, rfl, _, _, rfl, rfl, _, rfl, _, rfl, _, rfl, a, _, rfl, wst H' s1, fun b nb => ?_⟩
      rw [hcut]
      have s2 : Same H' (upd H' b (.lst (e.args.map vN))) := same_new nb
      have hb2 : upd H' b (.lst (e.args.map vN)) b = some (.lst (e.args.map vN)) := upd_same
      have hbf : b ≠ pf := fun z => by
        rw [z, hf] at nb
        cases nb
      generalize upd H' b (.lst (e.args.map vN)) = H2 at *
      refine ⟨(by show 2 ≤ sizeLine; decide), fun t nt => ?_⟩
      have s3 : Same H2 (upd H2 t (.tup [vN e.op, .ref b])) := same_new nt
      have ht3 : upd H2 t (.tup [vN e.op, .ref b]) t = some (.tup [vN e.op, .ref b]) := upd_same
      have htf : t ≠ pf := fun z => by
        rw [z, s2 _ _ hf] at nt
        cases nt
      have hf3 := s3 _ _ (s2 _ _ hf)
      have hb3 := s3 _ _ hb2
      refine ⟨pf, us, _, rfl, rfl, hf3, ?_, ?_⟩
      · rw [hus.length, List.length_take]
        exact len_small (by omega)
      have s13 := (s1.trans s2).trans s3
      refine ⟨_, rfl, cl.length - (i + 1), by omega, i + 1, us ++ [.ref t], some (vN (L + 1 + e.args.length)), hlt, rfl, ?_, same_mut s13 nf, upd_same, ?_⟩
      · rw [hnx]
        rfl
      · have kd : Same (Del H' pf) (Del (upd (upd H2 t (.tup [vN e.op, .ref b])) pf (.lst (us ++ [.ref t]))) pf) := fun x o ex => by
          have hx := del_ne ex
          rw [del_at hx, upd_ne hx]
          exact s3 _ _ (s2 _ _ (del_is ex))
        rw [take_more he]
        refine pr_last (Paired.mapP hus fun v e' hv => hv.keep (Keep.of kd)) ⟨t, b, rfl, ?_, ?_⟩
        · rw [del_at htf, upd_ne htf]
          exact ht3
        · show Del _ pf b = _
          rw [del_at hbf, upd_ne hbf]
          exact hb3
    · have e : cl.take i = cl := List.take_of_length_le (by omega)
      rw [e] at hus ⊢
      rw [← hns, decide_eq_false (by omega)]
      refine iteF ⟨_, rfl, ?_⟩
      exact q H' pf us s1 hf (Paired.mapP hus fun v e' hv => hv.keep (Keep.of (del_sub H' pf)))

theorem del_upd {H : Hp} {p : Addr} {o : HO} (h : H p = none) : Del (upd H p o) p = H := by
  funext b
  unfold Del
  by_cases e : b = p
  · rw [if_pos e, e, h]
  · rw [if_neg e, upd_ne e]
theorem sc_answers : FnScope ["calls", "session", "found", "number", "numbers", "told"] ["calls"] (defScope (top 59)) := ⟨rfl, rfl, rfl, by decide +kernel, rfl, by decide +kernel, by decide +kernel⟩
theorem fn_answers {f : Addr} {fd : FuncData} (F : Fun K "answers" "answers" (top 59) f fd) (c1 : CalC P w K mg base 4 "Session" CN ["self"] (spSInit CS CN)) (c2 : CalD P w K mg base 1 "split_calls" ["calls"] (spSplit K))
    (c3 : CalD P w K mg base 8 "answered" ["session", "number", "numbers"] (spAnswered CS CN)) (gl : mg "len" = none) : FnOk P w K mg base CX0 9 f fd ["calls"] (spAnswers K) := by
  refine F.ok sc_answers (fun vs H Q E h => ?_) (fun cdv A outer s H vs Q E hr h => ?_)
  · obtain ⟨a, ns, cl, rfl, _⟩ := h
    rfl
  · obtain ⟨a, ns, cl, rfl, hS, ak, q⟩ := h
    have nd := sc_answers.nd
    refine ⟨_, pss_cons (ps_set (i := 1) nd rfl (Or.inl rfl) (qmk0 c1 hr (by decide) rfl))
      (pss_cons (ps_set (i := 2) nd rfl (Or.inl rfl) (pe_lst pa_nil))
      (pss_cons (ps_for PassesOwn.never rfl (pi_list (qc c2.frame hr (by decide) rfl (pa_cons (pv 0) pa_nil))) (pg_tup rfl (pgs_cons (pg_name (i := 3) nd rfl (Or.inl rfl)) (pgs_cons (pg_name (i := 4) nd rfl (Or.inl rfl)) pgs_nil)))
        (pss_cons (ps_set (i := 5) nd rfl (Or.inl rfl) (qc c3.frame hr (by decide) rfl (pa_cons (pv 1) (pa_cons (pv 3) (pa_cons (pv 4) pa_nil)))))
        (pss_cons (ps_expr (pe_bm PySem.F.plainAttrs_list PySem.F.slot_list_append PySem.F.type_list_append mt_append (pv 2) (pa_cons (pe_callB call_len_seq rfl gl PySem.boot_len (pa_cons (pv 5) pa_nil)) pa_nil)))
        (pss_one (ps_expr (pe_bm PySem.F.plainAttrs_list PySem.F.slot_list_extend PySem.F.type_list_extend mt_extend (pv 2) (pa_cons (pv 5) pa_nil)))))))
      (pss_one (ps_ret (pv 2))))), ?_⟩
    -- session = Session()
    intro x dx nx nd2 ne
    refine ⟨x, dx, rfl, upd_same, fun H1 hS1 b1 => ⟨rfl, ?_⟩⟩
    have s1 : Same H H1 := Same.made nx nd2 b1
    -- found = []
    refine ⟨Nat.zero_le _, fun pf nf => ?_⟩
    -- for number, numbers in split_calls(calls)
    refine ⟨_, rfl, pf, [], H1, nf, rfl, a, ns, cl, rfl, s1.seq hS, ak.flat, ak.ok, ak.few, fun H2 pl us s2 hpl hus hn => ?_⟩
    have hplf : pl ≠ pf := fun e => by
      rw [e, hn] at hpl
      cases hpl
    have hpl1 : upd H2 pf (.lst []) pl = some (.lst us) := by rw [upd_ne hplf]; exact hpl
    refine ⟨pl, rfl, ⟨_, .inl (.inl hpl1)⟩, for_list (K := K) (a := pl) (xs := us) (fun i σ H' => ∃ (H0 : Hp) (o3 o4 o5 : Option V), H' = upd H0 pf (.lst ((PyFlat.told ((runC Sq33.fresh cl).take i)).map V.int)) ∧ H0 pf = none ∧ Keep H2 H0 ∧ SessAt CS CN H0 x (hAt Sq33.fresh cl i) ∧ σ = [some (.ref a), some (.ref x), some (.ref pf), o3, o4, o5])
      ⟨H2, none, none, none, rfl, hn, Keep.refl H2, hS1.keepA s2, rfl⟩ (fun i σ H' _ h => ?_) ?_ ?_⟩
    · obtain ⟨H0, _, _, _, rfl, _, k0, _⟩ := h
      refine .inl (.inl ?_)
      rw [upd_ne hplf]
      exact k0.lst hpl
    · rintro i v σ H' hi ⟨H0, o3, o4, o5, rfl, hn0, k0, hS0, rfl⟩
      obtain ⟨e, he, hv⟩ := pr_got hus hi
      obtain ⟨ta, tb, rfl, hta, htb⟩ := hv.keep k0
      have htaf : ta ≠ pf := fun z => by
        rw [z, hn0] at hta
        cases hta
      have hrun := runC_get (h := Sq33.fresh) he
      have hlen := lens_get hrun
      have hsmall := ak.small
      have hta1 : upd H0 pf (.lst ((PyFlat.told ((runC Sq33.fresh cl).take i)).map V.int)) ta = some (.tup [vN e.op, .ref tb]) := by rw [upd_ne htaf]; exact hta
      refine ⟨ta, _, rfl, .inl (.inl hta1), rfl, _, _, rfl, _, _, rfl, rfl, ?_⟩
      -- told = answered(session, number, numbers)
      refine ⟨_, rfl, _, rfl, _, rfl, pf, _, H0, hn0, rfl, x, tb, e.op, e.args, hAt Sq33.fresh cl i, e.call, rfl, htb, ak.ok e (List.mem_of_getElem? he), hS0, hAt_ok cl i, by omega, fun H3 qa k3 hS3 hq hn3 => ?_⟩
      have hqf : qa ≠ pf := fun z => by
        rw [z, hn3] at hq
        cases hq
      generalize hR : resOf (Sq33.House.step (hAt Sq33.fresh cl i) e.call).2 = R at *
      have hold : (PyFlat.told ((runC Sq33.fresh cl).take i)).length ≤ 1000250 := by
        rw [told_lens]
        have h1 := lens_take (runC Sq33.fresh cl) i
        have h2 := ak.few
        rw [List.length_take, runC_len]
        omega
      -- found.append(len(told))
      have hq1 : ∀ o, upd H3 pf o qa = some (.lst (R.map V.int)) := fun o => by rw [upd_ne hqf]; exact hq
      refine ⟨_, rfl, .inl ⟨rfl, _, .inl (.inl upd_same)⟩, _, rfl, qa, _, rfl, .inl (.inl (.inl (hq1 _))), pf, _, _, rfl, rfl, upd_same, ?_, ?_⟩
      · rw [List.length_map]
        exact len_small (by omega)
      rw [upd_upd]
      -- found.extend(told)
      refine ⟨_, rfl, .inl ⟨rfl, _, .inl (.inl upd_same)⟩, _, rfl, pf, qa, _, _, rfl, rfl, upd_same, hq1 _, ?_, ?_⟩
      · rw [List.length_append, List.length_map, List.length_map]
        exact len_le (by show _ + 1 + _ ≤ _; omega)
      rw [upd_upd]
      refine ⟨H3, _, _, _, ?_, hn3, k0.trans k3, ?_, rfl⟩
      · rw [told_more hrun, List.length_map, List.map_append, List.append_assoc]
        rfl
      · rw [hAt_next he]
        exact hS3
    · rintro σ H' ⟨H0, o3, o4, o5, rfl, hn0, k0, hS0, rfl⟩
      refine ⟨_, rfl, q _ pf ?_⟩
      rw [upd_same, ak.ans, hus.length, List.take_of_length_le (by rw [runC_len]; exact Nat.le_refl _)]
end
end Bt
namespace Bt
open PySem PySem.Spec PyProof.Rows L2

/-! ## what the top has written -/
section
variable {K : PySem.W.Frag} {h : Heap} {mg : Str → Option Value}
theorem int_mk (X : K.In h) (G : h.Ns mainGlobals mg) {x : Str} {i : Int} {t : Tok} (a : PySem.W.nsIn K mainGlobals x = some (some (.int i t))) : IntG mg x i := ⟨t, PySem.W.mg_of X G a⟩
theorem def_mk (X : K.In h) (G : h.Ns mainGlobals mg) {x : Str} {st : Stmt} {ps : List Str} {f : Addr} {oc : Value} {od an : Option Addr} {osl : Array (Option Value)} {kV doc pm cdv ct : Value}
    (hb : ∀ (kV doc pm : Value) (an : Option Addr) (cdv ct : Value) (us : List Value), us.length = ps.length → bindArgs (PySem.W.fnOf x x (defArgs st) (defBody st) (defScope st) .none kV doc pm an cdv ct) ⟨us, []⟩ = pure (ps.zip us))
    (a : PySem.W.nsIn K mainGlobals x = some (some (.ref f))) (l : K.lookup f = some ⟨oc, od, .func (PySem.W.fnOf x x (defArgs st) (defBody st) (defScope st) .none kV doc pm an cdv ct), osl⟩) (c : PySem.W.codeIn K cdv x = true) (k : PySem.W.keepIn K (.ref f) = true) : DefAt K mg x st ps :=
  ⟨f, _, PySem.W.mg_of X G a, fun_mk l c k, (fun_mk l c k).binds hb⟩
theorem meth_mk {C : Addr} {m qual : Str} {st : Stmt} {ps : List Str} {f : Addr} {oc : Value} {od an : Option Addr} {osl : Array (Option Value)} {kV doc pm cdv ct : Value}
    (hb : ∀ (kV doc pm : Value) (an : Option Addr) (cdv ct : Value) (us : List Value), us.length = ps.length → bindArgs (PySem.W.fnOf m qual (defArgs st) (defBody st) (defScope st) .none kV doc pm an cdv ct) ⟨us, []⟩ = pure (ps.zip us))
    (a : PySem.W.findIn K (.ref C) m = some (some (.ref f))) (i : PySem.W.isFn K (.ref f) = true) (l : K.lookup f = some ⟨oc, od, .func (PySem.W.fnOf m qual (defArgs st) (defBody st) (defScope st) .none kV doc pm an cdv ct), osl⟩) (c : PySem.W.codeIn K cdv qual = true) (k : PySem.W.keepIn K (.ref f) = true) : MethAt K C m qual st ps :=
  ⟨f, _, ⟨a, i, k⟩, fun_mk l c k, (fun_mk l c k).binds hb⟩
theorem init_mk (X : K.In h) (G : h.Ns mainGlobals mg) {C : Addr} {x qual : Str} {st : Stmt} {ps : List Str} {f : Addr} {oc : Value} {od an : Option Addr} {osl : Array (Option Value)} {kV doc pm cdv ct : Value}
    (hb : ∀ (kV doc pm : Value) (an : Option Addr) (cdv ct : Value) (us : List Value), us.length = ps.length → bindArgs (PySem.W.fnOf "__init__" qual (defArgs st) (defBody st) (defScope st) .none kV doc pm an cdv ct) ⟨us, []⟩ = pure (ps.zip us))
    (aC : PySem.W.nsIn K mainGlobals x = some (some (.ref C))) (mk : PySem.W.makesIn K C = true) (kc : PySem.W.keepIn K (.ref C) = true)
    (a : PySem.W.findIn K (.ref C) "__init__" = some (some (.ref f))) (i : PySem.W.isFn K (.ref f) = true) (l : K.lookup f = some ⟨oc, od, .func (PySem.W.fnOf "__init__" qual (defArgs st) (defBody st) (defScope st) .none kV doc pm an cdv ct), osl⟩) (c : PySem.W.codeIn K cdv qual = true) (k : PySem.W.keepIn K (.ref f) = true) : InitAt K mg x C qual st ps :=
  ⟨f, _, ⟨mk, a, i, kc⟩, PySem.W.mg_of X G aC, fun_mk l c k, (fun_mk l c k).binds hb⟩
theorem cls_mk {C : Addr} (pg : PySem.W.plainGet K C Str.empty = true) (hd : PySem.W.hasDictIn K C = true) (po : PySem.W.plainOver K C = true) (sa : PySem.W.findIn K (.ref C) "__setattr__" = some (some (.builtin "object.__setattr__"))) : Cls K C := ⟨pg, hd, po, sa⟩
theorem tup_mk (X : K.In h) (G : h.Ns mainGlobals mg) {x : Str} {vs : List V} {ma : Addr} {od : Option Addr} {its : Array Value} {n : Nat} {osl : Array (Option Value)} (a : PySem.W.nsIn K mainGlobals x = some (some (.ref ma))) (l : K.lookup ma = some ⟨.type "tuple", od, .seq its n, osl⟩) (z : its.size ≤ sizeLine) (v : Vals vs its.toList) : TupG K mg x vs :=
  ⟨ma, _, its, n, PySem.W.mg_of X G a, l, rfl, rfl, z, v⟩
theorem main_mk (X : K.In h) (G : h.Ns mainGlobals mg) {sp : Sp} {fa f : Addr} {oc : Value} {od an : Option Addr} {osl : Array (Option Value)} {kV doc pm cdv ct : Value} (hfa : mg "answers" = some (.ref fa))
    (a : PySem.W.nsIn K mainGlobals "answers" = some (some (.ref f))) (l : K.lookup f = some ⟨oc, od, .func (PySem.W.fnOf "answers" "answers" (defArgs (top 59)) (defBody (top 59)) (defScope (top 59)) .none kV doc pm an cdv ct), osl⟩) (c : PySem.W.codeIn K cdv "answers" = true) (k : PySem.W.keepIn K (.ref f) = true)
    {P : Program} {w : World} (hall : ∀ (base : Heap) (fd : FuncData), Fun K "answers" "answers" (top 59) f fd → FnOk P w K mg base CX0 9 f fd ["calls"] sp) :
    ∃ fd : FuncData, (∀ (s : Shared) (us : List Value), us.length = (["calls"] : List Str).length → BindsTo s fd ⟨us, []⟩ ((["calls"] : List Str).zip us)) ∧ ∀ base : Heap, K.In base → base.Ns mainGlobals mg → FnOk P w K mg base CX0 9 fa fd ["calls"] sp := by
  have e := hfa.symm.trans (PySem.W.mg_of X G a)
  cases e
  exact ⟨_, fun s us hu => match us, hu with | [_], _ => .of_eq rfl, fun base _ _ => hall base _ (fun_mk l c k)⟩
end

theorem site_mk {K : PySem.W.Frag} {C : Addr} (pg : PySem.W.plainGet K C Str.empty = true) (hd : PySem.W.hasDictIn K C = true) (po : PySem.W.plainOver K C = true) (sa : PySem.W.findIn K (.ref C) "__setattr__" = some (some (.builtin "object.__setattr__")))
    (n0 : PySem.W.findIn K (.ref C) "number" = some none) (n1 : PySem.W.findIn K (.ref C) "clock" = some none) (n2 : PySem.W.findIn K (.ref C) "counts" = some none) (n3 : PySem.W.findIn K (.ref C) "log" = some none) (n4 : PySem.W.findIn K (.ref C) "snapshot" = some none) (n5 : PySem.W.findIn K (.ref C) "own_confirmed" = some none) (n6 : PySem.W.findIn K (.ref C) "own_reported" = some none) (n7 : PySem.W.findIn K (.ref C) "many_compacted" = some none) : SiteT K C := ⟨cls_mk pg hd po sa, n0, n1, n2, n3, n4, n5, n6, n7⟩
theorem sess_mk {K : PySem.W.Frag} {C : Addr} (pg : PySem.W.plainGet K C Str.empty = true) (hd : PySem.W.hasDictIn K C = true) (po : PySem.W.plainOver K C = true) (sa : PySem.W.findIn K (.ref C) "__setattr__" = some (some (.builtin "object.__setattr__")))
    (n0 : PySem.W.findIn K (.ref C) "sites" = some none) (n1 : PySem.W.findIn K (.ref C) "messages" = some none) (n2 : PySem.W.findIn K (.ref C) "many_moves" = some none) : SessT K C := ⟨cls_mk pg hd po sa, n0, n1, n2⟩
structure Tx (K : PySem.W.Frag) (mg : Str → Option Value) (CS CN : Addr) : Prop where
  g_COUNTER : IntG mg "COUNTER" (0)
  g_REPLICA : IntG mg "REPLICA" (1)
  g_NUMBER : IntG mg "NUMBER" (2)
  g_NODE : IntG mg "NODE" (3)
  g_PARENT : IntG mg "PARENT" (4)
  g_LABEL : IntG mg "LABEL" (5)
  g_MANY_NODES : IntG mg "MANY_NODES" (64)
  g_ROOT : IntG mg "ROOT" (0)
  g_BIN : IntG mg "BIN" (1)
  g_NO_PARENT : IntG mg "NO_PARENT" (-1)
  g_NO_NODE : IntG mg "NO_NODE" (-2)
  g_DONE : IntG mg "DONE" (1)
  g_NO_SUCH_PARENT : IntG mg "NO_SUCH_PARENT" (2)
  g_IN_ITSELF : IntG mg "IN_ITSELF" (3)
  g_MOST_REPLICAS : IntG mg "MOST_REPLICAS" (6)
  g_MOST_LABEL : IntG mg "MOST_LABEL" (1000000000)
  g_MOST_MOVES : IntG mg "MOST_MOVES" (80)
  g_MOST_MESSAGES : IntG mg "MOST_MESSAGES" (200)
  g_OUTSIDE : IntG mg "OUTSIDE" (-1)
  g_NOT_THERE : IntG mg "NOT_THERE" (-2)
  g_TOO_MANY : IntG mg "TOO_MANY" (-5)
  z_zip : mg "zip" = none
  z_max : mg "max" = none
  z_range : mg "range" = none
  z_len : mg "len" = none
  z_min : mg "min" = none
  z_any : mg "any" = none
  z_sorted : mg "sorted" = none
  z_int : mg "int" = none
  site : SiteT K CS
  sess : SessT K CN
  m_many : TupG K mg "MANY_NUMBERS" (many.map vN)
  d_is_beyond : DefAt K mg "is_beyond" (top 7) ["move", "counts"]
  d_moves_beyond : DefAt K mg "moves_beyond" (top 8) ["moves", "counts"]
  d_greater_counts : DefAt K mg "greater_counts" (top 9) ["one", "other"]
  d_with_one_more : DefAt K mg "with_one_more" (top 10) ["counts", "replica"]
  d_bare_tree : DefAt K mg "bare_tree" (top 20) []
  d_does_exist : DefAt K mg "does_exist" (top 21) ["tree", "node"]
  d_is_within : DefAt K mg "is_within" (top 22) ["tree", "node", "other"]
  d_outcome_of : DefAt K mg "outcome_of" (top 23) ["tree", "move"]
  d_with_number : DefAt K mg "with_number" (top 24) ["numbers", "place", "number"]
  d_applied : DefAt K mg "applied" (top 25) ["tree", "move"]
  d_all_applied : DefAt K mg "all_applied" (top 26) ["tree", "moves"]
  d_children_of : DefAt K mg "children_of" (top 28) ["tree", "node"]
  d_with_depth : DefAt K mg "with_depth" (top 29) ["nodes", "depth"]
  d_nodes_below : DefAt K mg "nodes_below" (top 30) ["tree", "top"]
  d_outline_of : DefAt K mg "outline_of" (top 31) ["tree", "top"]
  d_begin : DefAt K mg "begin" (top 43) ["session", "numbers"]
  d_is_outside : DefAt K mg "is_outside" (top 44) ["node", "parent", "label"]
  d_move : DefAt K mg "move" (top 45) ["session", "numbers"]
  d_send : DefAt K mg "send" (top 46) ["session", "numbers"]
  d_deliver : DefAt K mg "deliver" (top 47) ["session", "numbers"]
  d_compact : DefAt K mg "compact" (top 48) ["session", "numbers"]
  d_tree_below_root : DefAt K mg "tree_below_root" (top 49) ["session", "numbers"]
  d_tree_below_bin : DefAt K mg "tree_below_bin" (top 50) ["session", "numbers"]
  d_log_of : DefAt K mg "log_of" (top 51) ["session", "numbers"]
  d_horizon_of : DefAt K mg "horizon_of" (top 52) ["session", "numbers"]
  d_compactable : DefAt K mg "compactable" (top 53) ["session", "numbers"]
  d_compare : DefAt K mg "compare" (top 54) ["session", "numbers"]
  d_answered : DefAt K mg "answered" (top 57) ["session", "number", "numbers"]
  d_split_calls : DefAt K mg "split_calls" (top 58) ["calls"]
  i_Site : InitAt K mg "Site" CS "Site.__init__" (meth 0) ["self", "number", "many"]
  i_Session : InitAt K mg "Session" CN "Session.__init__" (smeth 0) ["self"]
  s_tree_now : MethAt K CS "tree_now" "Site.tree_now" (meth 1) ["self"]
  s_confirmed_for : MethAt K CS "confirmed_for" "Site.confirmed_for" (meth 2) ["self", "other"]
  s_clock_of : MethAt K CS "clock_of" "Site.clock_of" (meth 3) ["self", "other"]
  s_horizon_now : MethAt K CS "horizon_now" "Site.horizon_now" (meth 4) ["self"]
  s_is_confirmed : MethAt K CS "is_confirmed" "Site.is_confirmed" (meth 5) ["self", "move"]
  s_many_compactable : MethAt K CS "many_compactable" "Site.many_compactable" (meth 6) ["self"]
  s_make_move : MethAt K CS "make_move" "Site.make_move" (meth 7) ["self", "node", "parent", "label"]
  s_message_for : MethAt K CS "message_for" "Site.message_for" (meth 8) ["self", "receiver"]
  s_take_message : MethAt K CS "take_message" "Site.take_message" (meth 9) ["self", "message"]
  s_compact_log : MethAt K CS "compact_log" "Site.compact_log" (meth 10) ["self"]
  s_has_site : MethAt K CN "has_site" "Session.has_site" (smeth 1) ["self", "number"]
  s_start_anew : MethAt K CN "start_anew" "Session.start_anew" (smeth 2) ["self", "many"]
theorem all_ok {P : Program} {w : World} {K : PySem.W.Frag} {mg : Str → Option Value} {base : Heap} {CS CN f : Addr} {fd : FuncData} (T : Tx K mg CS CN) (F : Fun K "answers" "answers" (top 59) f fd) : FnOk P w K mg base CX0 9 f fd ["calls"] (spAnswers K) := by
  have a1 := ok_is_beyond (P := P) (w := w) (base := base) T.d_is_beyond T.g_NUMBER T.g_REPLICA
  have a2 := ok_beyond (P := P) (w := w) (base := base) T.d_moves_beyond a1
  have a3 := ok_greater (P := P) (w := w) (base := base) T.d_greater_counts T.z_zip T.z_max
  have a4 := ok_onemore (P := P) (w := w) (base := base) T.d_with_one_more
  have b1 := ok_bare (P := P) (w := w) (base := base) T.d_bare_tree T.g_NO_PARENT T.g_NO_NODE T.g_MANY_NODES
  have b2 := ok_exist (P := P) (w := w) (base := base) T.d_does_exist T.g_NO_NODE
  have b3 := ok_within (P := P) (w := w) (base := base) T.d_is_within T.g_MANY_NODES T.g_NO_PARENT T.z_range
  have b4 := ok_outcome (P := P) (w := w) (base := base) T.d_outcome_of b2 b3 T.g_PARENT T.g_NODE T.g_NO_SUCH_PARENT T.g_IN_ITSELF T.g_DONE
  have b5 := ok_withnum (P := P) (w := w) (base := base) T.d_with_number
  have b6 := ok_applied (P := P) (w := w) (base := base) T.d_applied b4 b5 T.g_PARENT T.g_NODE T.g_LABEL T.g_DONE
  have b7 := ok_all (P := P) (w := w) (base := base) T.d_all_applied b6
  have c1 := ok_kids (P := P) (w := w) (base := base) T.d_children_of T.g_MANY_NODES T.z_range
  have c2 := ok_depth (P := P) (w := w) (base := base) T.d_with_depth
  have c3 := ok_below (P := P) (w := w) (base := base) T.d_nodes_below c1 c2
  have c4 := ok_outline (P := P) (w := w) (base := base) T.d_outline_of T.z_len c3
  have s0 := ok_init (P := P) (w := w) (base := base) T.i_Site T.site b1 T.z_range
  have s1 := ok_tree (P := P) (w := w) (base := base) T.s_tree_now T.site b7
  have s2 := ok_conf (P := P) (w := w) (base := base) (mg := mg) T.s_confirmed_for T.site
  have s3 := ok_clock (P := P) (w := w) (base := base) (mg := mg) T.s_clock_of T.site
  have s4 := ok_horizon (P := P) (w := w) (base := base) T.s_horizon_now T.site s3 T.z_min T.z_range T.z_len
  have s5 := ok_isconf (P := P) (w := w) (base := base) T.s_is_confirmed T.site a1 s2 T.z_any T.z_range T.z_len
  have s6 := ok_many (P := P) (w := w) (base := base) T.s_many_compactable T.site s4 s5 T.g_COUNTER
  have s7 := ok_make (P := P) (w := w) (base := base) T.s_make_move T.site a4 b4 s1 T.z_sorted
  have s8 := ok_message (P := P) (w := w) (base := base) T.s_message_for T.site a2 s2
  have s9 := ok_take (P := P) (w := w) (base := base) T.s_take_message T.site a2 a3 T.z_sorted T.z_max T.z_len
  have s10 := ok_compact (P := P) (w := w) (base := base) T.s_compact_log T.site b7 s6
  have n0 := ok_sinit (P := P) (w := w) (base := base) T.i_Session T.sess s0
  have n1 := ok_has (P := P) (w := w) (base := base) (CS := CS) T.s_has_site T.sess T.z_len
  have n2 := ok_anew (P := P) (w := w) (base := base) T.s_start_anew T.sess s0 T.z_range
  have o1 := ok_begin (P := P) (w := w) (base := base) T.d_begin n2 T.g_MOST_REPLICAS T.g_OUTSIDE
  have o0 := ok_outside (P := P) (w := w) (base := base) T.d_is_outside T.g_ROOT T.g_BIN T.g_MANY_NODES T.g_MOST_LABEL
  have o2 := ok_move (P := P) (w := w) (base := base) T.d_move T.sess n1 o0 s7 T.g_NOT_THERE T.g_OUTSIDE T.g_TOO_MANY T.g_MOST_MOVES
  have o3 := ok_send (P := P) (w := w) (base := base) T.d_send T.sess n1 s8 T.z_len T.g_NOT_THERE T.g_TOO_MANY T.g_MOST_MESSAGES
  have o4 := ok_deliver (P := P) (w := w) (base := base) T.d_deliver T.sess s9 T.z_len T.g_NOT_THERE
  have o5 := ok_compact2 (P := P) (w := w) (base := base) T.d_compact T.sess n1 s10 T.g_NOT_THERE
  have o6 := ok_root (P := P) (w := w) (base := base) T.d_tree_below_root T.sess n1 c4 s1 T.g_NOT_THERE T.g_ROOT
  have o7 := ok_bin (P := P) (w := w) (base := base) T.d_tree_below_bin T.sess n1 c4 s1 T.g_NOT_THERE T.g_BIN
  have o8 := ok_log (P := P) (w := w) (base := base) T.d_log_of T.sess T.site n1 T.z_len T.g_NOT_THERE T.g_REPLICA T.g_NUMBER
  have o9 := ok_hor (P := P) (w := w) (base := base) T.d_horizon_of T.sess T.site n1 s4 T.g_NOT_THERE
  have o10 := ok_cpt (P := P) (w := w) (base := base) T.d_compactable T.sess n1 s6 T.g_NOT_THERE
  have o11 := ok_cmp (P := P) (w := w) (base := base) T.d_compare T.sess T.site n1 s1 T.z_int T.g_NOT_THERE
  have p1 := ok_answered (P := P) (w := w) (base := base) T.d_answered o1 o2 o3 o4 o5 o6 o7 o8 o9 o10 o11
  have p2 := ok_split (P := P) (w := w) (base := base) T.d_split_calls T.z_len T.m_many
  exact fn_answers F n0 p2 p1 T.z_len
theorem fin_mk {P : Program} {w : World} {K : PySem.W.Frag} {h : Heap} {mg : Str → Option Value} (X : K.In h) (G : h.Ns mainGlobals mg) {CS CN fa f : Addr} {oc : Value} {od an : Option Addr} {osl : Array (Option Value)} {kV doc pm cdv ct : Value} (hfa : mg "answers" = some (.ref fa))
    (a : PySem.W.nsIn K mainGlobals "answers" = some (some (.ref f))) (l : K.lookup f = some ⟨oc, od, .func (PySem.W.fnOf "answers" "answers" (defArgs (top 59)) (defBody (top 59)) (defScope (top 59)) .none kV doc pm an cdv ct), osl⟩) (c : PySem.W.codeIn K cdv "answers" = true) (k : PySem.W.keepIn K (.ref f) = true)
    (eS : PySem.W.nsIn K mainGlobals "Site" = some (some (.ref CS))) (eN : PySem.W.nsIn K mainGlobals "Session" = some (some (.ref CN)))
    (g_COUNTER : IntG mg "COUNTER" (0))
    (g_REPLICA : IntG mg "REPLICA" (1))
    (g_NUMBER : IntG mg "NUMBER" (2))
    (g_NODE : IntG mg "NODE" (3))
    (g_PARENT : IntG mg "PARENT" (4))
    (g_LABEL : IntG mg "LABEL" (5))
    (g_MANY_NODES : IntG mg "MANY_NODES" (64))
    (g_ROOT : IntG mg "ROOT" (0))
    (g_BIN : IntG mg "BIN" (1))
    (g_NO_PARENT : IntG mg "NO_PARENT" (-1))
    (g_NO_NODE : IntG mg "NO_NODE" (-2))
    (g_DONE : IntG mg "DONE" (1))
    (g_NO_SUCH_PARENT : IntG mg "NO_SUCH_PARENT" (2))
    (g_IN_ITSELF : IntG mg "IN_ITSELF" (3))
    (g_MOST_REPLICAS : IntG mg "MOST_REPLICAS" (6))
    (g_MOST_LABEL : IntG mg "MOST_LABEL" (1000000000))
    (g_MOST_MOVES : IntG mg "MOST_MOVES" (80))
    (g_MOST_MESSAGES : IntG mg "MOST_MESSAGES" (200))
    (g_OUTSIDE : IntG mg "OUTSIDE" (-1))
    (g_NOT_THERE : IntG mg "NOT_THERE" (-2))
    (g_TOO_MANY : IntG mg "TOO_MANY" (-5))
    (z_zip : mg "zip" = none)
    (z_max : mg "max" = none)
    (z_range : mg "range" = none)
    (z_len : mg "len" = none)
    (z_min : mg "min" = none)
    (z_any : mg "any" = none)
    (z_sorted : mg "sorted" = none)
    (z_int : mg "int" = none)
    (site : SiteT K CS)
    (sess : SessT K CN)
    (m_many : TupG K mg "MANY_NUMBERS" (many.map vN))
    (d_is_beyond : DefAt K mg "is_beyond" (top 7) ["move", "counts"])
    (d_moves_beyond : DefAt K mg "moves_beyond" (top 8) ["moves", "counts"])
    (d_greater_counts : DefAt K mg "greater_counts" (top 9) ["one", "other"])
    (d_with_one_more : DefAt K mg "with_one_more" (top 10) ["counts", "replica"])
    (d_bare_tree : DefAt K mg "bare_tree" (top 20) [])
    (d_does_exist : DefAt K mg "does_exist" (top 21) ["tree", "node"])
    (d_is_within : DefAt K mg "is_within" (top 22) ["tree", "node", "other"])
    (d_outcome_of : DefAt K mg "outcome_of" (top 23) ["tree", "move"])
    (d_with_number : DefAt K mg "with_number" (top 24) ["numbers", "place", "number"])
    (d_applied : DefAt K mg "applied" (top 25) ["tree", "move"])
    (d_all_applied : DefAt K mg "all_applied" (top 26) ["tree", "moves"])
    (d_children_of : DefAt K mg "children_of" (top 28) ["tree", "node"])
    (d_with_depth : DefAt K mg "with_depth" (top 29) ["nodes", "depth"])
    (d_nodes_below : DefAt K mg "nodes_below" (top 30) ["tree", "top"])
    (d_outline_of : DefAt K mg "outline_of" (top 31) ["tree", "top"])
    (d_begin : DefAt K mg "begin" (top 43) ["session", "numbers"])
    (d_is_outside : DefAt K mg "is_outside" (top 44) ["node", "parent", "label"])
    (d_move : DefAt K mg "move" (top 45) ["session", "numbers"])
    (d_send : DefAt K mg "send" (top 46) ["session", "numbers"])
    (d_deliver : DefAt K mg "deliver" (top 47) ["session", "numbers"])
    (d_compact : DefAt K mg "compact" (top 48) ["session", "numbers"])
    (d_tree_below_root : DefAt K mg "tree_below_root" (top 49) ["session", "numbers"])
    (d_tree_below_bin : DefAt K mg "tree_below_bin" (top 50) ["session", "numbers"])
    (d_log_of : DefAt K mg "log_of" (top 51) ["session", "numbers"])
    (d_horizon_of : DefAt K mg "horizon_of" (top 52) ["session", "numbers"])
    (d_compactable : DefAt K mg "compactable" (top 53) ["session", "numbers"])
    (d_compare : DefAt K mg "compare" (top 54) ["session", "numbers"])
    (d_answered : DefAt K mg "answered" (top 57) ["session", "number", "numbers"])
    (d_split_calls : DefAt K mg "split_calls" (top 58) ["calls"])
    (i_Site : InitAt K mg "Site" CS "Site.__init__" (meth 0) ["self", "number", "many"])
    (i_Session : InitAt K mg "Session" CN "Session.__init__" (smeth 0) ["self"])
    (s_tree_now : MethAt K CS "tree_now" "Site.tree_now" (meth 1) ["self"])
    (s_confirmed_for : MethAt K CS "confirmed_for" "Site.confirmed_for" (meth 2) ["self", "other"])
    (s_clock_of : MethAt K CS "clock_of" "Site.clock_of" (meth 3) ["self", "other"])
    (s_horizon_now : MethAt K CS "horizon_now" "Site.horizon_now" (meth 4) ["self"])
    (s_is_confirmed : MethAt K CS "is_confirmed" "Site.is_confirmed" (meth 5) ["self", "move"])
    (s_many_compactable : MethAt K CS "many_compactable" "Site.many_compactable" (meth 6) ["self"])
    (s_make_move : MethAt K CS "make_move" "Site.make_move" (meth 7) ["self", "node", "parent", "label"])
    (s_message_for : MethAt K CS "message_for" "Site.message_for" (meth 8) ["self", "receiver"])
    (s_take_message : MethAt K CS "take_message" "Site.take_message" (meth 9) ["self", "message"])
    (s_compact_log : MethAt K CS "compact_log" "Site.compact_log" (meth 10) ["self"])
    (s_has_site : MethAt K CN "has_site" "Session.has_site" (smeth 1) ["self", "number"])
    (s_start_anew : MethAt K CN "start_anew" "Session.start_anew" (smeth 2) ["self", "many"]) :
    ∃ fd : FuncData, (∀ (s : Shared) (us : List Value), us.length = (["calls"] : List Str).length → BindsTo s fd ⟨us, []⟩ ((["calls"] : List Str).zip us)) ∧ ∀ base : Heap, K.In base → base.Ns mainGlobals mg → FnOk P w K mg base CX0 9 fa fd ["calls"] (spAnswers K) :=
  main_mk X G hfa a l c k fun base fd F => all_ok (CS := CS) (CN := CN) ⟨g_COUNTER, g_REPLICA, g_NUMBER, g_NODE, g_PARENT, g_LABEL, g_MANY_NODES, g_ROOT, g_BIN, g_NO_PARENT, g_NO_NODE, g_DONE, g_NO_SUCH_PARENT, g_IN_ITSELF, g_MOST_REPLICAS, g_MOST_LABEL, g_MOST_MOVES, g_MOST_MESSAGES, g_OUTSIDE, g_NOT_THERE, g_TOO_MANY, z_zip, z_max, z_range, z_len, z_min, z_any, z_sorted, z_int, site, sess, m_many, d_is_beyond, d_moves_beyond, d_greater_counts, d_with_one_more, d_bare_tree, d_does_exist, d_is_within, d_outcome_of, d_with_number, d_applied, d_all_applied, d_children_of, d_with_depth, d_nodes_below, d_outline_of, d_begin, d_is_outside, d_move, d_send, d_deliver, d_compact, d_tree_below_root, d_tree_below_bin, d_log_of, d_horizon_of, d_compactable, d_compare, d_answered, d_split_calls, i_Site, i_Session, s_tree_now, s_confirmed_for, s_clock_of, s_horizon_now, s_is_confirmed, s_many_compactable, s_make_move, s_message_for, s_take_message, s_compact_log, s_has_site, s_start_anew⟩ F
end Bt
open PySem PySem.W PyProof.Rows
set_option maxRecDepth 100000 in
set_option maxHeartbeats 0 in
theorem PySem.Challenge.cw_binnedtrees_s01_answers_holds : PySem.Challenge.rw_binnedtrees_s01_answers.Holds := by
  w_on; k_headS; (case hw => exact ⟨[.list [.int 6, .int 0]], by decide +kernel, by decide +kernel⟩)
  k_fillS
  refine L2.walk_specK (r := PySem.Challenge.rw_binnedtrees_s01_answers) (k := 9) (CX := L2.CX0) (ps := ["calls"]) (sp := Bt.spAnswers) (by decide +kernel) rfl rfl ⟨rfl, by decide, by decide⟩ (fun w h Y => PySem.W.kIn_of Y) ?F ?S (fun _ _ _ _ z => z)
  case F =>
    intro w mg fa h Y KX G hmg
    refine' Bt.fin_mk KX G hmg ?a ?l ?c ?k ?eS ?eN ?g_COUNTER ?g_REPLICA ?g_NUMBER ?g_NODE ?g_PARENT ?g_LABEL ?g_MANY_NODES ?g_ROOT ?g_BIN ?g_NO_PARENT ?g_NO_NODE ?g_DONE ?g_NO_SUCH_PARENT ?g_IN_ITSELF ?g_MOST_REPLICAS ?g_MOST_LABEL ?g_MOST_MOVES ?g_MOST_MESSAGES ?g_OUTSIDE ?g_NOT_THERE ?g_TOO_MANY ?z_zip ?z_max ?z_range ?z_len ?z_min ?z_any ?z_sorted ?z_int ?site ?sess ?m_many ?d_is_beyond ?d_moves_beyond ?d_greater_counts ?d_with_one_more ?d_bare_tree ?d_does_exist ?d_is_within ?d_outcome_of ?d_with_number ?d_applied ?d_all_applied ?d_children_of ?d_with_depth ?d_nodes_below ?d_outline_of ?d_begin ?d_is_outside ?d_move ?d_send ?d_deliver ?d_compact ?d_tree_below_root ?d_tree_below_bin ?d_log_of ?d_horizon_of ?d_compactable ?d_compare ?d_answered ?d_split_calls ?i_Site ?i_Session ?s_tree_now ?s_confirmed_for ?s_clock_of ?s_horizon_now ?s_is_confirmed ?s_many_compactable ?s_make_move ?s_message_for ?s_take_message ?s_compact_log ?s_has_site ?s_start_anew
    (case a => k_is); (case l => k_is); (case c => k_is); (case k => k_is); (case eS => k_is); (case eN => k_is)
    (case g_COUNTER => refine' Bt.int_mk KX G ?a; (case a => k_is))
    (case g_REPLICA => refine' Bt.int_mk KX G ?a; (case a => k_is))
    (case g_NUMBER => refine' Bt.int_mk KX G ?a; (case a => k_is))
    (case g_NODE => refine' Bt.int_mk KX G ?a; (case a => k_is))
    (case g_PARENT => refine' Bt.int_mk KX G ?a; (case a => k_is))
    (case g_LABEL => refine' Bt.int_mk KX G ?a; (case a => k_is))
    (case g_MANY_NODES => refine' Bt.int_mk KX G ?a; (case a => k_is))
    (case g_ROOT => refine' Bt.int_mk KX G ?a; (case a => k_is))
    (case g_BIN => refine' Bt.int_mk KX G ?a; (case a => k_is))
    (case g_NO_PARENT => refine' Bt.int_mk KX G ?a; (case a => k_is))
    (case g_NO_NODE => refine' Bt.int_mk KX G ?a; (case a => k_is))
    (case g_DONE => refine' Bt.int_mk KX G ?a; (case a => k_is))
    (case g_NO_SUCH_PARENT => refine' Bt.int_mk KX G ?a; (case a => k_is))
    (case g_IN_ITSELF => refine' Bt.int_mk KX G ?a; (case a => k_is))
    (case g_MOST_REPLICAS => refine' Bt.int_mk KX G ?a; (case a => k_is))
    (case g_MOST_LABEL => refine' Bt.int_mk KX G ?a; (case a => k_is))
    (case g_MOST_MOVES => refine' Bt.int_mk KX G ?a; (case a => k_is))
    (case g_MOST_MESSAGES => refine' Bt.int_mk KX G ?a; (case a => k_is))
    (case g_OUTSIDE => refine' Bt.int_mk KX G ?a; (case a => k_is))
    (case g_NOT_THERE => refine' Bt.int_mk KX G ?a; (case a => k_is))
    (case g_TOO_MANY => refine' Bt.int_mk KX G ?a; (case a => k_is))
    (case z_zip => refine' PySem.W.mg_none_of KX G ?a; (case a => k_is))
    (case z_max => refine' PySem.W.mg_none_of KX G ?a; (case a => k_is))
    (case z_range => refine' PySem.W.mg_none_of KX G ?a; (case a => k_is))
    (case z_len => refine' PySem.W.mg_none_of KX G ?a; (case a => k_is))
    (case z_min => refine' PySem.W.mg_none_of KX G ?a; (case a => k_is))
    (case z_any => refine' PySem.W.mg_none_of KX G ?a; (case a => k_is))
    (case z_sorted => refine' PySem.W.mg_none_of KX G ?a; (case a => k_is))
    (case z_int => refine' PySem.W.mg_none_of KX G ?a; (case a => k_is))
    (case site => refine' Bt.site_mk ?a ?b ?c ?d ?n0 ?n1 ?n2 ?n3 ?n4 ?n5 ?n6 ?n7; (case a => k_is); (case b => k_is); (case c => k_is); (case d => k_is); (case n0 => k_is); (case n1 => k_is); (case n2 => k_is); (case n3 => k_is); (case n4 => k_is); (case n5 => k_is); (case n6 => k_is); (case n7 => k_is))
    (case sess => refine' Bt.sess_mk ?a ?b ?c ?d ?n0 ?n1 ?n2; (case a => k_is); (case b => k_is); (case c => k_is); (case d => k_is); (case n0 => k_is); (case n1 => k_is); (case n2 => k_is))
    (case m_many => refine' Bt.tup_mk KX G ?a ?l ?z ?v; (case a => k_is); (case l => k_is); (case z => decide +kernel); (case v => exact (.cons ⟨_, rfl⟩ (.cons ⟨_, rfl⟩ (.cons ⟨_, rfl⟩ (.cons ⟨_, rfl⟩ (.cons ⟨_, rfl⟩ (.cons ⟨_, rfl⟩ (.cons ⟨_, rfl⟩ (.cons ⟨_, rfl⟩ (.cons ⟨_, rfl⟩ (.cons ⟨_, rfl⟩ (.cons ⟨_, rfl⟩ (.cons ⟨_, rfl⟩ .nil))))))))))))))
    (case d_is_beyond => refine' Bt.def_mk KX G (fun _ _ _ _ _ _ us hl => match us, hl with | [_, _], _ => rfl) ?a ?l ?c ?k; (case a => k_is); (case l => k_is); (case c => k_is); (case k => k_is))
    (case d_moves_beyond => refine' Bt.def_mk KX G (fun _ _ _ _ _ _ us hl => match us, hl with | [_, _], _ => rfl) ?a ?l ?c ?k; (case a => k_is); (case l => k_is); (case c => k_is); (case k => k_is))
    (case d_greater_counts => refine' Bt.def_mk KX G (fun _ _ _ _ _ _ us hl => match us, hl with | [_, _], _ => rfl) ?a ?l ?c ?k; (case a => k_is); (case l => k_is); (case c => k_is); (case k => k_is))
    (case d_with_one_more => refine' Bt.def_mk KX G (fun _ _ _ _ _ _ us hl => match us, hl with | [_, _], _ => rfl) ?a ?l ?c ?k; (case a => k_is); (case l => k_is); (case c => k_is); (case k => k_is))
    (case d_bare_tree => refine' Bt.def_mk KX G (fun _ _ _ _ _ _ us hl => match us, hl with | [], _ => rfl) ?a ?l ?c ?k; (case a => k_is); (case l => k_is); (case c => k_is); (case k => k_is))
    (case d_does_exist => refine' Bt.def_mk KX G (fun _ _ _ _ _ _ us hl => match us, hl with | [_, _], _ => rfl) ?a ?l ?c ?k; (case a => k_is); (case l => k_is); (case c => k_is); (case k => k_is))
    (case d_is_within => refine' Bt.def_mk KX G (fun _ _ _ _ _ _ us hl => match us, hl with | [_, _, _], _ => rfl) ?a ?l ?c ?k; (case a => k_is); (case l => k_is); (case c => k_is); (case k => k_is))
    (case d_outcome_of => refine' Bt.def_mk KX G (fun _ _ _ _ _ _ us hl => match us, hl with | [_, _], _ => rfl) ?a ?l ?c ?k; (case a => k_is); (case l => k_is); (case c => k_is); (case k => k_is))
    (case d_with_number => refine' Bt.def_mk KX G (fun _ _ _ _ _ _ us hl => match us, hl with | [_, _, _], _ => rfl) ?a ?l ?c ?k; (case a => k_is); (case l => k_is); (case c => k_is); (case k => k_is))
    (case d_applied => refine' Bt.def_mk KX G (fun _ _ _ _ _ _ us hl => match us, hl with | [_, _], _ => rfl) ?a ?l ?c ?k; (case a => k_is); (case l => k_is); (case c => k_is); (case k => k_is))
    (case d_all_applied => refine' Bt.def_mk KX G (fun _ _ _ _ _ _ us hl => match us, hl with | [_, _], _ => rfl) ?a ?l ?c ?k; (case a => k_is); (case l => k_is); (case c => k_is); (case k => k_is))
    (case d_children_of => refine' Bt.def_mk KX G (fun _ _ _ _ _ _ us hl => match us, hl with | [_, _], _ => rfl) ?a ?l ?c ?k; (case a => k_is); (case l => k_is); (case c => k_is); (case k => k_is))
    (case d_with_depth => refine' Bt.def_mk KX G (fun _ _ _ _ _ _ us hl => match us, hl with | [_, _], _ => rfl) ?a ?l ?c ?k; (case a => k_is); (case l => k_is); (case c => k_is); (case k => k_is))
    (case d_nodes_below => refine' Bt.def_mk KX G (fun _ _ _ _ _ _ us hl => match us, hl with | [_, _], _ => rfl) ?a ?l ?c ?k; (case a => k_is); (case l => k_is); (case c => k_is); (case k => k_is))
    (case d_outline_of => refine' Bt.def_mk KX G (fun _ _ _ _ _ _ us hl => match us, hl with | [_, _], _ => rfl) ?a ?l ?c ?k; (case a => k_is); (case l => k_is); (case c => k_is); (case k => k_is))
    (case d_begin => refine' Bt.def_mk KX G (fun _ _ _ _ _ _ us hl => match us, hl with | [_, _], _ => rfl) ?a ?l ?c ?k; (case a => k_is); (case l => k_is); (case c => k_is); (case k => k_is))
    (case d_is_outside => refine' Bt.def_mk KX G (fun _ _ _ _ _ _ us hl => match us, hl with | [_, _, _], _ => rfl) ?a ?l ?c ?k; (case a => k_is); (case l => k_is); (case c => k_is); (case k => k_is))
    (case d_move => refine' Bt.def_mk KX G (fun _ _ _ _ _ _ us hl => match us, hl with | [_, _], _ => rfl) ?a ?l ?c ?k; (case a => k_is); (case l => k_is); (case c => k_is); (case k => k_is))
    (case d_send => refine' Bt.def_mk KX G (fun _ _ _ _ _ _ us hl => match us, hl with | [_, _], _ => rfl) ?a ?l ?c ?k; (case a => k_is); (case l => k_is); (case c => k_is); (case k => k_is))
    (case d_deliver => refine' Bt.def_mk KX G (fun _ _ _ _ _ _ us hl => match us, hl with | [_, _], _ => rfl) ?a ?l ?c ?k; (case a => k_is); (case l => k_is); (case c => k_is); (case k => k_is))
    (case d_compact => refine' Bt.def_mk KX G (fun _ _ _ _ _ _ us hl => match us, hl with | [_, _], _ => rfl) ?a ?l ?c ?k; (case a => k_is); (case l => k_is); (case c => k_is); (case k => k_is))
    (case d_tree_below_root => refine' Bt.def_mk KX G (fun _ _ _ _ _ _ us hl => match us, hl with | [_, _], _ => rfl) ?a ?l ?c ?k; (case a => k_is); (case l => k_is); (case c => k_is); (case k => k_is))
    (case d_tree_below_bin => refine' Bt.def_mk KX G (fun _ _ _ _ _ _ us hl => match us, hl with | [_, _], _ => rfl) ?a ?l ?c ?k; (case a => k_is); (case l => k_is); (case c => k_is); (case k => k_is))
    (case d_log_of => refine' Bt.def_mk KX G (fun _ _ _ _ _ _ us hl => match us, hl with | [_, _], _ => rfl) ?a ?l ?c ?k; (case a => k_is); (case l => k_is); (case c => k_is); (case k => k_is))
    (case d_horizon_of => refine' Bt.def_mk KX G (fun _ _ _ _ _ _ us hl => match us, hl with | [_, _], _ => rfl) ?a ?l ?c ?k; (case a => k_is); (case l => k_is); (case c => k_is); (case k => k_is))
    (case d_compactable => refine' Bt.def_mk KX G (fun _ _ _ _ _ _ us hl => match us, hl with | [_, _], _ => rfl) ?a ?l ?c ?k; (case a => k_is); (case l => k_is); (case c => k_is); (case k => k_is))
    (case d_compare => refine' Bt.def_mk KX G (fun _ _ _ _ _ _ us hl => match us, hl with | [_, _], _ => rfl) ?a ?l ?c ?k; (case a => k_is); (case l => k_is); (case c => k_is); (case k => k_is))
    (case d_answered => refine' Bt.def_mk KX G (fun _ _ _ _ _ _ us hl => match us, hl with | [_, _, _], _ => rfl) ?a ?l ?c ?k; (case a => k_is); (case l => k_is); (case c => k_is); (case k => k_is))
    (case d_split_calls => refine' Bt.def_mk KX G (fun _ _ _ _ _ _ us hl => match us, hl with | [_], _ => rfl) ?a ?l ?c ?k; (case a => k_is); (case l => k_is); (case c => k_is); (case k => k_is))
    (case i_Site => refine' Bt.init_mk KX G (fun _ _ _ _ _ _ us hl => match us, hl with | [_, _, _], _ => rfl) ?e ?m ?kc ?a ?i ?l ?c ?k; (case e => k_is); (case m => k_is); (case kc => k_is); (case a => k_is); (case i => k_is); (case l => k_is); (case c => k_is); (case k => k_is))
    (case i_Session => refine' Bt.init_mk KX G (fun _ _ _ _ _ _ us hl => match us, hl with | [_], _ => rfl) ?e ?m ?kc ?a ?i ?l ?c ?k; (case e => k_is); (case m => k_is); (case kc => k_is); (case a => k_is); (case i => k_is); (case l => k_is); (case c => k_is); (case k => k_is))
    (case s_tree_now => refine' Bt.meth_mk (fun _ _ _ _ _ _ us hl => match us, hl with | [_], _ => rfl) ?a ?i ?l ?c ?k; (case a => k_is); (case i => k_is); (case l => k_is); (case c => k_is); (case k => k_is))
    (case s_confirmed_for => refine' Bt.meth_mk (fun _ _ _ _ _ _ us hl => match us, hl with | [_, _], _ => rfl) ?a ?i ?l ?c ?k; (case a => k_is); (case i => k_is); (case l => k_is); (case c => k_is); (case k => k_is))
    (case s_clock_of => refine' Bt.meth_mk (fun _ _ _ _ _ _ us hl => match us, hl with | [_, _], _ => rfl) ?a ?i ?l ?c ?k; (case a => k_is); (case i => k_is); (case l => k_is); (case c => k_is); (case k => k_is))
    (case s_horizon_now => refine' Bt.meth_mk (fun _ _ _ _ _ _ us hl => match us, hl with | [_], _ => rfl) ?a ?i ?l ?c ?k; (case a => k_is); (case i => k_is); (case l => k_is); (case c => k_is); (case k => k_is))
    (case s_is_confirmed => refine' Bt.meth_mk (fun _ _ _ _ _ _ us hl => match us, hl with | [_, _], _ => rfl) ?a ?i ?l ?c ?k; (case a => k_is); (case i => k_is); (case l => k_is); (case c => k_is); (case k => k_is))
    (case s_many_compactable => refine' Bt.meth_mk (fun _ _ _ _ _ _ us hl => match us, hl with | [_], _ => rfl) ?a ?i ?l ?c ?k; (case a => k_is); (case i => k_is); (case l => k_is); (case c => k_is); (case k => k_is))
    (case s_make_move => refine' Bt.meth_mk (fun _ _ _ _ _ _ us hl => match us, hl with | [_, _, _, _], _ => rfl) ?a ?i ?l ?c ?k; (case a => k_is); (case i => k_is); (case l => k_is); (case c => k_is); (case k => k_is))
    (case s_message_for => refine' Bt.meth_mk (fun _ _ _ _ _ _ us hl => match us, hl with | [_, _], _ => rfl) ?a ?i ?l ?c ?k; (case a => k_is); (case i => k_is); (case l => k_is); (case c => k_is); (case k => k_is))
    (case s_take_message => refine' Bt.meth_mk (fun _ _ _ _ _ _ us hl => match us, hl with | [_, _], _ => rfl) ?a ?i ?l ?c ?k; (case a => k_is); (case i => k_is); (case l => k_is); (case c => k_is); (case k => k_is))
    (case s_compact_log => refine' Bt.meth_mk (fun _ _ _ _ _ _ us hl => match us, hl with | [_], _ => rfl) ?a ?i ?l ?c ?k; (case a => k_is); (case i => k_is); (case l => k_is); (case c => k_is); (case k => k_is))
    (case s_has_site => refine' Bt.meth_mk (fun _ _ _ _ _ _ us hl => match us, hl with | [_, _], _ => rfl) ?a ?i ?l ?c ?k; (case a => k_is); (case i => k_is); (case l => k_is); (case c => k_is); (case k => k_is))
    (case s_start_anew => refine' Bt.meth_mk (fun _ _ _ _ _ _ us hl => match us, hl with | [_, _], _ => rfl) ?a ?i ?l ?c ?k; (case a => k_is); (case i => k_is); (case l => k_is); (case c => k_is); (case k => k_is))
  case S =>
    intro K H xs a hO hwi hask hx
    cases hx with
    | cons h1 h2 =>
      cases h2
      cases h1 with
      | lst hs ha =>
        have e := L2.ints_dw a.1 _ ha
        subst e
        have hq : (Codec.inLen 0 1250 a.1 && a.1.all (Codec.inInt (Int.ofNat 0) (Int.ofNat 18446744073709551615)) && true) = true := hwi
        rw [Bool.and_eq_true, Bool.and_eq_true] at hq
        have hz : ∀ z ∈ a.1, (0 : Int) ≤ z := fun z hzm => by
          have h9 := List.all_eq_true.mp hq.1.2 z hzm
          exact (Codec.inInt_iff.mp h9).1
        obtain ⟨cl, hcl⟩ := Bt.asked_of (ns := a.1) hask hz
        exact ⟨_, a.1, cl, rfl, hs, hcl, fun H' p hp => .lst (L2.SqL.of hp) (L2.dw_ints _)⟩
#print axioms PySem.Challenge.cw_binnedtrees_s01_answers_holds
