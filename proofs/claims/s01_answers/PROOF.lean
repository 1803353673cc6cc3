import PyProof.Rows.All
import Wide.All
import OpenK.AllK
import Wide.FinOn
import Open.SpecLaws
import KE.OsHead
import KE.OsGo
import HandS.ForSpec
import HandS.Comp
import HandS.Iter
import PyFlatLaws
import PySem.Challenge.RW_sailchanges_s01_answers
set_option Elab.async false
set_option maxRecDepth 100000
set_option linter.all false
set_option maxHeartbeats 2000000
/-! The mathematics: a mirror of the program over plain data, and that it is the specification. -/
namespace Sc
open Uw30
/-! ### the mirror -/
/-- may a right plan tell i in a wind w -/
def mayBe (p : Passage) (w i : Nat) : Bool := decide (i = p.bare) || stands (p.sail i) w
def choices (p : Passage) (w : Nat) : List Nat := (List.range (p.bare + 1)).filter (mayBe p w)
def isCh (p : Passage) (b i : Nat) : Nat := if i = b ∨ i = p.bare then 0 else 1
def withC (p : Passage) (w b i : Nat) (x : Best) : Best := ⟨x.first + p.gain b i w, x.second + isCh p b i, x.many, i :: x.plan⟩
def better (x y : Best) : Prop := y.first < x.first ∨ (x.first = y.first ∧ x.second < y.second)
def asGood (x y : Best) : Prop := x.first = y.first ∧ x.second = y.second
instance (x y : Best) : Decidable (better x y) := inferInstanceAs (Decidable (_ ∨ _))
instance (x y : Best) : Decidable (asGood x y) := inferInstanceAs (Decidable (_ ∧ _))
def pick (f o : Best) : Best := if better o f then o else if asGood o f then { f with many := f.many + o.many } else f
def dfl : Best := ⟨0, 0, 0, []⟩
def bestOf : List Best → Best
  | [] => dfl
  | x :: l => l.foldl pick x
def someOf (p : Passage) (w b : Nat) (r : Nat → Best) : List Best := (choices p w).map fun i => withC p w b i (r i)
def bestFrom (p : Passage) : List Nat → Nat → Best
  | [], _ => ⟨0, 0, 1, []⟩
  | w :: ws, b => bestOf (someOf p w b (bestFrom p ws))
/-! ### best -/
theorem pick_assoc (a b c : Best) : pick (pick a b) c = pick a (pick b c) := by
  unfold pick better asGood
  grind
theorem withC_pick (p : Passage) (w b i : Nat) (x y : Best) : withC p w b i (pick x y) = pick (withC p w b i x) (withC p w b i y) := by
  unfold pick better asGood withC
  grind
def optPick (b : Option Best) (o : Best) : Option Best := match b with
  | none => some o
  | some x => some (pick x o)
def best? (l : List Best) : Option Best := l.foldl optPick none
theorem fold_some : ∀ (l : List Best) (x : Best), l.foldl optPick (some x) = some (l.foldl pick x)
  | [], _ => rfl
  | y :: l, x => fold_some l (pick x y)
theorem best?_cons (x : Best) (l : List Best) : best? (x :: l) = some (bestOf (x :: l)) := fold_some l x
theorem fold_pick : ∀ (l : List Best) (x y : Best), l.foldl pick (pick x y) = pick x (l.foldl pick y)
  | [], _, _ => rfl
  | z :: l, x, y => by
    show l.foldl pick (pick (pick x y) z) = pick x (l.foldl pick (pick y z))
    rw [pick_assoc, fold_pick l]
def join (a b : Option Best) : Option Best := match a, b with
  | none, b => b
  | a, none => a
  | some x, some y => some (pick x y)
theorem best?_append (l m : List Best) : best? (l ++ m) = join (best? l) (best? m) := by
  cases l with
  | nil => 
    show best? m = join none (best? m)
    cases best? m <;> rfl
  | cons x l =>
    cases m with
    | nil => 
      rw [List.append_nil, best?_cons] 
      rfl
    | cons y m =>
      show (l ++ y :: m).foldl optPick (some x) = join (best? (x :: l)) (best? (y :: m))
      rw [best?_cons, best?_cons, fold_some, List.foldl_append]
      show some (m.foldl pick (pick (l.foldl pick x) y)) = some (pick (l.foldl pick x) (m.foldl pick y))
      rw [fold_pick]
theorem best?_map (f : Best → Best) (hf : ∀ x y, f (pick x y) = pick (f x) (f y)) (l : List Best) : best? (l.map f) = (best? l).map f := by
  cases l with
  | nil => rfl
  | cons x l =>
    rw [List.map_cons, best?_cons, best?_cons]
    show some ((l.map f).foldl pick (f x)) = some (f (l.foldl pick x))
    congr 1
    induction l generalizing x with
    | nil => rfl
    | cons y l ih =>
      show (l.map f).foldl pick (pick (f x) (f y)) = f (l.foldl pick (pick x y))
      rw [← hf]
      exact ih _
/-- a flat map of lists, each with its best -/
theorem best?_flat {α : Type} (g : α → List Best) (h : α → Best) : ∀ (l : List α), (∀ a ∈ l, best? (g a) = some (h a)) → best? (l.flatMap g) = best? (l.map h)
  | [], _ => rfl
  | a :: l, e => by
    rw [List.flatMap_cons, List.map_cons, best?_append, best?_flat g h l fun b hb => e b (List.mem_cons_of_mem _ hb), e a List.mem_cons_self]
    show join (some (h a)) (best? (l.map h)) = best? (h a :: l.map h)
    rw [show h a :: l.map h = [h a] ++ l.map h from rfl, best?_append]
    rfl
/-! right plans by recursion -/
def okFrom (p : Passage) : List Nat → List Nat → Bool
  | [], [] => true
  | w :: ws, i :: l => mayBe p w i && okFrom p ws l
  | _, _ => false
def plansFrom (p : Passage) : List Nat → List (List Nat)
  | [] => [[]]
  | w :: ws => (choices p w).flatMap fun i => (plansFrom p ws).map fun l => i :: l
def single (p : Passage) (b : Nat) (ws l : List Nat) : Best := ⟨total (p.gains b ws l), p.changes b l, 1, l⟩
theorem fold_add : ∀ (l : List Nat) (a : Nat), l.foldl (fun a b => a + b) a = a + total l
  | [], a => rfl
  | x :: l, a => by
    show l.foldl (fun a b => a + b) (a + x) = a + l.foldl (fun a b => a + b) (0 + x)
    rw [fold_add l, fold_add l]
    omega
theorem total_cons (x : Nat) (l : List Nat) : total (x :: l) = x + total l := by
  show l.foldl (fun a b => a + b) (0 + x) = x + total l
  rw [fold_add]
  omega
theorem total_append (l m : List Nat) : total (l ++ m) = total l + total m := by
  show (l ++ m).foldl _ 0 = _
  rw [List.foldl_append, fold_add]
  rfl
theorem single_cons (p : Passage) (b w i : Nat) (ws l : List Nat) : single p b (w :: ws) (i :: l) = withC p w b i (single p i ws l) := by
  show Best.mk (total (p.gain b i w :: p.gains i ws l)) ((if i = b ∨ i = p.bare then 0 else 1) + p.changes i l) 1 (i :: l) = Best.mk (total (p.gains i ws l) + p.gain b i w) (p.changes i l + isCh p b i) 1 (i :: l)
  rw [total_cons, Nat.add_comm, Nat.add_comm (if i = b ∨ i = p.bare then 0 else 1)]
  rfl
theorem choices_ne (p : Passage) (w : Nat) : choices p w ≠ [] := by
  intro e
  have h : p.bare ∈ choices p w := by
    unfold choices mayBe
    simp
  rw [e] at h
  cases h
theorem best_from (p : Passage) : ∀ (ws : List Nat) (b : Nat), best? ((plansFrom p ws).map (single p b ws)) = some (bestFrom p ws b)
  | [], b => rfl
  | w :: ws, b => by
    have e : (plansFrom p (w :: ws)).map (single p b (w :: ws)) = (choices p w).flatMap fun i => ((plansFrom p ws).map (single p i ws)).map (withC p w b i) := by
      show ((choices p w).flatMap fun i => (plansFrom p ws).map fun l => i :: l).map _ = _
      rw [List.map_flatMap]
      congr 1
      funext i
      rw [List.map_map, List.map_map]
      congr 1
      funext l
      exact single_cons p b w i ws l
    rw [e, best?_flat _ (fun i => withC p w b i (bestFrom p ws i))]
    · show best? (someOf p w b (bestFrom p ws)) = some (bestOf (someOf p w b (bestFrom p ws)))
      cases h : someOf p w b (bestFrom p ws) with
      | nil => 
        unfold someOf at h
        exact absurd (List.map_eq_nil_iff.mp h) (choices_ne p w)
      | cons x l => exact best?_cons x l
    · intro i _
      rw [best?_map _ (withC_pick p w b i), best_from p ws i]
      rfl
/-! the specification's plans -/
theorem mem_rows (k : Nat) : ∀ (n : Nat) (l : List Nat), l ∈ rows k n → l.length = n ∧ ∀ i ∈ l, i ≤ k
  | 0, l, h => by
    have e : l = [] := by simpa [rows] using h
    subst e
    exact ⟨rfl, fun i hi => by cases hi⟩
  | n + 1, l, h => by
    unfold rows at h
    simp only [List.mem_flatMap, List.mem_range, List.mem_map] at h
    obtain ⟨a, ha, m, hm, rfl⟩ := h
    obtain ⟨e, q⟩ := mem_rows k n m hm
    refine ⟨by simp [e], fun i hi => ?_⟩
    rcases List.mem_cons.mp hi with rfl | hi
    · omega
    · exact q i hi
/-- the first wrong hour -/
theorem torn_none (p : Passage) (l : List Nat) : (p.torn l).isNone = true ↔ ∀ h, h < l.length → mayBe p (p.winds.getD h 0) (l.getD h 0) = true := by
  unfold Passage.torn mayBe
  rw [Option.isNone_iff_eq_none, List.find?_eq_none]
  constructor
  · intro q h hh
    have := q h (List.mem_range.mpr hh)
    revert this
    cases e : stands (p.sail (l.getD h 0)) (p.winds.getD h 0) <;> simp
  · intro q h hh
    have := q h (List.mem_range.mp hh)
    revert this
    cases e : stands (p.sail (l.getD h 0)) (p.winds.getD h 0) <;> simp
theorem ok_iff (p : Passage) : ∀ (ws l : List Nat), l.length = ws.length → (okFrom p ws l = true ↔ ∀ h, h < l.length → mayBe p (ws.getD h 0) (l.getD h 0) = true)
  | [], [], _ => by simp [okFrom]
  | w :: ws, i :: l, e => by
    have ih := ok_iff p ws l (by simpa using e)
    unfold okFrom
    rw [Bool.and_eq_true, ih]
    constructor
    · rintro ⟨h1, h2⟩ h hh
      cases h with
      | zero => exact h1
      | succ h => exact h2 h (by simpa using hh)
    · intro q
      exact ⟨q 0 (by simp), fun h hh => q (h + 1) (by simpa using hh)⟩
theorem right_ok (p : Passage) (l : List Nat) (h : l ∈ rows p.bare p.winds.length) : p.right l = okFrom p p.winds l := by
  obtain ⟨e, q⟩ := mem_rows _ _ _ h
  unfold Passage.right
  have t : p.told l = true := by
    unfold Passage.told
    rw [e]
    simpa using q
  rw [t, Bool.true_and]
  exact Bool.eq_iff_iff.mpr ((torn_none p l).trans (ok_iff p p.winds l e).symm)
theorem flat_filter {α β : Type} (q : α → Bool) (g : α → List β) : ∀ (l : List α), (l.filter q).flatMap g = l.flatMap fun a => if q a = true then g a else []
  | [] => rfl
  | a :: l => by
    rw [List.filter_cons, List.flatMap_cons]
    cases e : q a with
    | true => rw [if_pos rfl, if_pos rfl, List.flatMap_cons, flat_filter q g l]
    | false => rw [if_neg Bool.false_ne_true, if_neg Bool.false_ne_true, List.nil_append, flat_filter q g l]
theorem filter_rows (p : Passage) : ∀ (ws : List Nat), (rows p.bare ws.length).filter (okFrom p ws) = plansFrom p ws
  | [] => rfl
  | w :: ws => by
    show ((List.range (p.bare + 1)).flatMap fun a => (rows p.bare ws.length).map fun l => a :: l).filter (okFrom p (w :: ws)) = (choices p w).flatMap fun i => (plansFrom p ws).map fun l => i :: l
    rw [← filter_rows p ws]
    unfold choices
    rw [List.filter_flatMap, flat_filter]
    congr 1
    funext a
    rw [List.filter_map]
    cases e : mayBe p w a with
    | true =>
      rw [if_pos rfl]
      congr 1
      congr 1
      funext l
      show (mayBe p w a && okFrom p ws l) = okFrom p ws l
      rw [e, Bool.true_and]
    | false =>
      rw [if_neg Bool.false_ne_true]
      rw [List.map_eq_nil_iff, List.filter_eq_nil_iff]
      intro l _
      show ¬ (mayBe p w a && okFrom p ws l) = true
      rw [e]
      simp
theorem plans_eq (p : Passage) : p.plans = plansFrom p p.winds := by
  unfold Passage.plans
  rw [← filter_rows p p.winds]
  exact List.filter_congr fun l h => right_ok p l h
theorem best_eq (p : Passage) : p.best = some (bestFrom p p.winds p.bare) := by
  rw [← best_from p p.winds p.bare, ← plans_eq]
  unfold Passage.best best?
  rw [List.foldl_map]
  congr 1
  funext b l
  cases b with
  | none => rfl
  | some x =>
    show (if x.first < p.far l ∨ (p.far l = x.first ∧ p.changes p.bare l < x.second) then _ else _) = some (pick x (single p p.bare p.winds l))
    unfold pick better asGood single Passage.far
    grind
/-! ### what a plan gains, its changes -/
theorem gains_len (p : Passage) : ∀ (ws l : List Nat) (b : Nat), l.length = ws.length → (p.gains b ws l).length = l.length
  | [], [], _, _ => rfl
  | w :: ws, i :: l, b, e => by
    show (p.gains i ws l).length + 1 = l.length + 1
    rw [gains_len p ws l i (by simpa using e)]
/-- what was set ahead of an hour -/
def ahead (b : Nat) (l : List Nat) (h : Nat) : Nat := (b :: l).getD h 0
theorem gains_get (p : Passage) : ∀ (ws l : List Nat) (b h : Nat), l.length = ws.length → h < l.length → (p.gains b ws l)[h]? = some (p.gain (ahead b l h) (l.getD h 0) (ws.getD h 0))
  | [], [], _, _, _, q => by simp at q
  | w :: ws, i :: l, b, 0, _, _ => rfl
  | w :: ws, i :: l, b, h + 1, e, q => by
    show (p.gains i ws l)[h]? = _
    rw [gains_get p ws l i h (by simpa using e) (by simpa using q)]
    rfl
theorem ahead_succ (b : Nat) (l : List Nat) (h : Nat) : ahead b l (h + 1) = l.getD h 0 := rfl
theorem ahead_zero (b : Nat) (l : List Nat) : ahead b l 0 = b := rfl
theorem changes_take (p : Passage) : ∀ (l : List Nat) (b h : Nat), h < l.length → p.changes b (l.take (h + 1)) = p.changes b (l.take h) + isCh p (ahead b l h) (l.getD h 0)
  | [], _, _, q => by simp at q
  | i :: l, b, 0, _ => by
    show (if i = b ∨ i = p.bare then 0 else 1) + p.changes i [] = 0 + isCh p b i
    rw [Nat.zero_add]
    rfl
  | i :: l, b, h + 1, q => by
    show (if i = b ∨ i = p.bare then 0 else 1) + p.changes i (l.take (h + 1)) = ((if i = b ∨ i = p.bare then 0 else 1) + p.changes i (l.take h)) + isCh p (ahead i l h) (l.getD h 0)
    rw [changes_take p l i h (by simpa using q)]
    omega
/-! ### hour by hour -/
/-- the program's choice: the most so far, the sail -/
def plainStep (p : Passage) (b w : Nat) (s : Nat × Nat) (i : Nat) : Nat × Nat := if s.1 < p.gain b i w then (p.gain b i w, i) else s
def plainC (p : Passage) (b w : Nat) : Nat := ((choices p w).foldl (plainStep p b w) (0, p.bare)).2
theorem gain_bare (p : Passage) (b w : Nat) : p.gain b p.bare w = 0 := if_pos rfl
theorem fold_filter {α β : Type} (q : α → Bool) (f : β → α → β) : ∀ (l : List α) (s : β), (l.filter q).foldl f s = l.foldl (fun s a => if q a = true then f s a else s) s
  | [], _ => rfl
  | a :: l, s => by
    rw [List.filter_cons, List.foldl_cons]
    cases e : q a with
    | true => rw [if_pos rfl, if_pos rfl, List.foldl_cons, fold_filter q f l]
    | false => rw [if_neg Bool.false_ne_true, if_neg Bool.false_ne_true, fold_filter q f l]
theorem plain_fold (p : Passage) (b w : Nat) : ∀ (l : List Nat), (∀ i ∈ l, i < p.bare) → ∀ (c : Nat),
    (l.filter (mayBe p w)).foldl (plainStep p b w) (p.gain b c w, c) =
      (fun c => (p.gain b c w, c)) (l.foldl (fun c k => if stands (p.sail k) w = true ∧ p.gain b c w < p.gain b k w then k else c) c)
  | [], _, c => rfl
  | k :: l, hl, c => by
    have hk : k < p.bare := hl k List.mem_cons_self
    have ih := plain_fold p b w l fun i hi => hl i (List.mem_cons_of_mem _ hi)
    have em : mayBe p w k = stands (p.sail k) w := by
      unfold mayBe
      rw [decide_eq_false (by omega), Bool.false_or]
    rw [List.filter_cons, em, List.foldl_cons]
    cases e : stands (p.sail k) w with
    | false =>
      rw [if_neg Bool.false_ne_true, ih, if_neg (by simp)]
    | true =>
      rw [if_pos rfl, List.foldl_cons]
      unfold plainStep
      by_cases c1 : p.gain b c w < p.gain b k w
      · rw [if_pos c1, if_pos ⟨rfl, c1⟩]
        exact ih k
      · rw [if_neg c1, if_neg (fun z => c1 z.2)]
        exact ih c
theorem plainC_eq (p : Passage) (b w : Nat) : plainC p b w = (List.range p.sails.length).foldl (fun c k => if stands (p.sail k) w = true ∧ p.gain b c w < p.gain b k w then k else c) p.bare := by
  unfold plainC choices
  have hb : mayBe p w p.bare = true := by simp [mayBe]
  rw [List.range_succ, List.filter_append, List.foldl_append]
  have e := plain_fold p b w (List.range p.bare) (fun i hi => List.mem_range.mp hi) p.bare
  rw [gain_bare] at e
  rw [e, List.filter_cons, if_pos hb]
  show (plainStep p b w _ p.bare).2 = _
  unfold plainStep
  rw [gain_bare, if_neg (by omega)]
  rfl
theorem plainFrom_cons (p : Passage) (b w : Nat) (ws : List Nat) : p.plainFrom b (w :: ws) = plainC p b w :: p.plainFrom (plainC p b w) ws := by
  rw [plainC_eq]
  rfl
theorem plain_len (p : Passage) : ∀ (ws : List Nat) (b : Nat), (p.plainFrom b ws).length = ws.length
  | [], _ => rfl
  | w :: ws, b => by rw [plainFrom_cons, List.length_cons, plain_len p ws, List.length_cons]
theorem plain_get (p : Passage) : ∀ (ws : List Nat) (b h : Nat), h < ws.length → (p.plainFrom b ws)[h]? = some (plainC p (ahead b (p.plainFrom b ws) h) (ws.getD h 0))
  | [], _, _, q => by simp at q
  | w :: ws, b, 0, _ => by rw [plainFrom_cons]; rfl
  | w :: ws, b, h + 1, q => by
    rw [plainFrom_cons]
    show (p.plainFrom (plainC p b w) ws)[h]? = _
    rw [plain_get p ws (plainC p b w) h (by simpa using q)]
    rfl
theorem choices_le {p : Passage} {w i : Nat} (h : i ∈ choices p w) : i ≤ p.bare ∧ mayBe p w i = true := by
  unfold choices at h
  obtain ⟨h1, h2⟩ := List.mem_filter.mp h
  exact ⟨by have := List.mem_range.mp h1; omega, h2⟩
theorem choices_len (p : Passage) (w : Nat) : (choices p w).length ≤ p.bare + 1 := by
  unfold choices
  exact Nat.le_trans (List.length_filter_le _ _) (by simp)
theorem plainC_le (p : Passage) (b w : Nat) : plainC p b w ≤ p.bare := by
  have h : ∀ (l : List Nat), (∀ i ∈ l, i ≤ p.bare) → ∀ s : Nat × Nat, s.2 ≤ p.bare → (l.foldl (plainStep p b w) s).2 ≤ p.bare := by
    intro l
    induction l with
    | nil => intro _ s hs; exact hs
    | cons i l ih =>
      intro hl s hs
      rw [List.foldl_cons]
      refine ih (fun j hj => hl j (List.mem_cons_of_mem _ hj)) _ ?_
      unfold plainStep
      split
      · exact hl i List.mem_cons_self
      · exact hs
  exact h _ (fun i hi => (choices_le hi).1) _ (Nat.le_refl _)
theorem plain_le (p : Passage) : ∀ (ws : List Nat) (b : Nat), ∀ i ∈ p.plainFrom b ws, i ≤ p.bare
  | [], _, i, hi => by cases hi
  | w :: ws, b, i, hi => by
    rw [plainFrom_cons] at hi
    rcases List.mem_cons.mp hi with rfl | hi
    · exact plainC_le p b w
    · exact plain_le p ws _ i hi
end Sc
namespace Sc
open Uw30
/-! ### how soon -/
def maxL : List Int → Int
  | [] => -1
  | x :: l => l.foldl max x
theorem maxL_spec : ∀ (l : List Int), l ≠ [] → maxL l ∈ l ∧ ∀ y ∈ l, y ≤ maxL l
  | [], h => absurd rfl h
  | x :: l, _ => by
    show l.foldl max x ∈ x :: l ∧ ∀ y ∈ x :: l, y ≤ l.foldl max x
    induction l generalizing x with
    | nil => exact ⟨List.mem_cons_self, fun y hy => by simp at hy; subst hy; exact Int.le_refl _⟩
    | cons z l ih =>
      rw [List.foldl_cons]
      obtain ⟨h1, h2⟩ := ih (max x z) (by simp)
      refine ⟨?_, fun y hy => ?_⟩
      · rcases List.mem_cons.mp h1 with h | h
        · rw [h]
          rcases Int.le_total x z with q | q
          · rw [Int.max_eq_right q]; simp
          · rw [Int.max_eq_left q]; simp
        · simp [h]
      · have h3 := h2 (max x z) List.mem_cons_self
        rcases List.mem_cons.mp hy with rfl | hy
        · have := Int.le_max_left y z
          omega
        · rcases List.mem_cons.mp hy with rfl | hy
          · have := Int.le_max_right x y
            omega
          · exact h2 y (List.mem_cons_of_mem _ hy)
theorem maxL_uniq {l : List Int} {m : Int} (h1 : m ∈ l) (h2 : ∀ y ∈ l, y ≤ m) : m = maxL l := by
  obtain ⟨a, b⟩ := maxL_spec l (by intro e; rw [e] at h1; cases h1)
  have := h2 _ a
  have := b _ h1
  omega
/-- what was set in the hours before, and is reached -/
def aheadL (r : List Int) : List Nat := (List.range r.length).filter fun b => decide (0 ≤ r.getD b (-1))
def gainsL (p : Passage) (w i : Nat) (r : List Int) : List Int := (aheadL r).map fun b => r.getD b (-1) + (p.gain b i w : Int)
def fartherM (p : Passage) (w : Nat) (r : List Int) : List Int := (List.range (p.bare + 1)).map fun i => if mayBe p w i = true then maxL (gainsL p w i r) else -1
def reach0 (p : Passage) : List Int := List.replicate p.bare (-1) ++ [0]
def reach (p : Passage) (ws : List Nat) : List Int := ws.foldl (fun r w => fartherM p w r) (reach0 p)
def soonM (p : Passage) (d : Nat) : Option Nat := (List.range (p.winds.length + 1)).find? fun h => decide ((d : Int) ≤ maxL (reach p (p.winds.take h)))
theorem mem_aheadL {r : List Int} {b : Nat} : b ∈ aheadL r ↔ b < r.length ∧ 0 ≤ r.getD b (-1) := by
  unfold aheadL
  simp [List.mem_filter]
def lastOf (b : Nat) (l : List Nat) : Nat := ahead b l l.length
theorem lastOf_snoc (b i : Nat) (l : List Nat) : lastOf b (l ++ [i]) = i := by
  unfold lastOf ahead
  simp [List.getD]
theorem ok_len (p : Passage) : ∀ (ws l : List Nat), okFrom p ws l = true → l.length = ws.length
  | [], [], _ => rfl
  | w :: ws, i :: l, h => by
    unfold okFrom at h
    rw [Bool.and_eq_true] at h
    simp [ok_len p ws l h.2]
  | [], _ :: _, h => by simp [okFrom] at h
  | _ :: _, [], h => by simp [okFrom] at h
theorem ok_append (p : Passage) : ∀ (ws l ws' l' : List Nat), l.length = ws.length → okFrom p (ws ++ ws') (l ++ l') = (okFrom p ws l && okFrom p ws' l')
  | [], [], _, _, _ => by simp [okFrom]
  | w :: ws, i :: l, ws', l', e => by
    show (mayBe p w i && okFrom p (ws ++ ws') (l ++ l')) = ((mayBe p w i && okFrom p ws l) && okFrom p ws' l')
    rw [ok_append p ws l ws' l' (by simpa using e), Bool.and_assoc]
theorem ok_one (p : Passage) (w i : Nat) : okFrom p [w] [i] = mayBe p w i := by simp [okFrom]
theorem gains_append (p : Passage) : ∀ (ws l ws' l' : List Nat) (b : Nat), l.length = ws.length → p.gains b (ws ++ ws') (l ++ l') = p.gains b ws l ++ p.gains (lastOf b l) ws' l'
  | [], [], _, _, _, _ => rfl
  | w :: ws, i :: l, ws', l', b, e => by
    show p.gain b i w :: p.gains i (ws ++ ws') (l ++ l') = p.gain b i w :: (p.gains i ws l ++ p.gains (lastOf i l) ws' l')
    rw [gains_append p ws l ws' l' i (by simpa using e)]
theorem gains_one (p : Passage) (b w i : Nat) : p.gains b [w] [i] = [p.gain b i w] := rfl
theorem snoc_of {l : List Nat} {n : Nat} (h : l.length = n + 1) : ∃ m i, l = m ++ [i] ∧ m.length = n := by
  refine ⟨l.take n, l.getD n 0, ?_, by simp [h]⟩
  rw [List.getD_eq_getElem?_getD, List.getElem?_eq_getElem (by omega)]
  conv => lhs; rw [← List.take_append_drop n l]
  congr 1
  rw [List.drop_eq_getElem_cons (by omega), List.drop_eq_nil_of_le (by omega)]
  rfl
theorem mem_map_le {p : Passage} : ∀ (ws l : List Nat), okFrom p ws l = true → (∀ w i, mayBe p w i = true → i ≤ p.bare) → ∀ i ∈ l, i ≤ p.bare
  | [], [], _, _, i, hi => by cases hi
  | w :: ws, k :: l, h, q, i, hi => by
    unfold okFrom at h
    rw [Bool.and_eq_true] at h
    rcases List.mem_cons.mp hi with rfl | hi
    · exact q _ _ h.1
    · exact mem_map_le ws l h.2 q i hi
  | [], _ :: _, h, _, _, _ => by simp [okFrom] at h
  | _ :: _, [], h, _, _, _ => by simp [okFrom] at h
/-- a sail that isn't there stands nowhere -/
theorem mayBe_le {p : Passage} {w i : Nat} (h : mayBe p w i = true) : i ≤ p.bare := by
  unfold mayBe at h
  by_cases c : i ≤ p.bare
  · exact c
  · have e : p.sail i = ⟨1, 0, []⟩ := by
      unfold Passage.sail Passage.bare at *
      rw [List.getD_eq_getElem?_getD, List.getElem?_eq_none (by omega)]
      rfl
    rw [e] at h
    simp [stands] at h
    omega
structure Reached (p : Passage) (ws : List Nat) (r : List Int) : Prop where
  len : r.length = p.bare + 1
  up : ∀ l, okFrom p ws l = true → (total (p.gains p.bare ws l) : Int) ≤ r.getD (lastOf p.bare l) (-1)
  at_ : ∀ i, 0 ≤ r.getD i (-1) → ∃ l, okFrom p ws l = true ∧ lastOf p.bare l = i ∧ (total (p.gains p.bare ws l) : Int) = r.getD i (-1)
theorem lastOf_le {p : Passage} {ws l : List Nat} (h : okFrom p ws l = true) : lastOf p.bare l ≤ p.bare := by
  rcases Nat.eq_zero_or_pos l.length with e | e
  · have : l = [] := List.length_eq_zero_iff.mp e
    subst this
    exact Nat.le_refl _
  · obtain ⟨m, i, rfl, _⟩ := snoc_of (l := l) (n := l.length - 1) (by omega)
    rw [lastOf_snoc]
    exact mem_map_le ws _ h (fun _ _ => mayBe_le) i (by simp)
theorem reached0 (p : Passage) : Reached p [] (reach0 p) := by
  refine ⟨by simp [reach0], fun l h => ?_, fun i h => ?_⟩
  · cases l with
    | nil => 
      show (0 : Int) ≤ (reach0 p).getD p.bare (-1)
      unfold reach0
      simp [List.getD]
    | cons => simp [okFrom] at h
  · have hi : i = p.bare := by
      unfold reach0 at h
      simp only [List.getD_eq_getElem?_getD] at h
      by_cases c : i < p.bare
      · rw [List.getElem?_append_left (by simpa using c)] at h
        simp [c] at h
      · by_cases c2 : i = p.bare
        · exact c2
        · rw [List.getElem?_eq_none (by simp; omega)] at h
          simp at h
    subst hi
    refine ⟨[], rfl, rfl, ?_⟩
    show (0 : Int) = (reach0 p).getD p.bare (-1)
    unfold reach0
    simp [List.getD]
theorem ok_bare (p : Passage) : ∀ (ws : List Nat), okFrom p ws (List.replicate ws.length p.bare) = true
  | [] => rfl
  | w :: ws => by
    show (mayBe p w p.bare && okFrom p ws (List.replicate ws.length p.bare)) = true
    rw [ok_bare p ws]
    simp [mayBe]
theorem Reached.some {p : Passage} {ws : List Nat} {r : List Int} (R : Reached p ws r) : aheadL r ≠ [] := by
  have h := R.up _ (ok_bare p ws)
  have q := lastOf_le (ok_bare p ws)
  have m : lastOf p.bare (List.replicate ws.length p.bare) ∈ aheadL r := mem_aheadL.mpr ⟨by rw [R.len]; omega, by omega⟩
  intro e
  rw [e] at m
  cases m
theorem farther_get (p : Passage) (w : Nat) (r : List Int) (i : Nat) : (fartherM p w r).getD i (-1) = if mayBe p w i = true then maxL (gainsL p w i r) else -1 := by
  unfold fartherM
  rw [List.getD_eq_getElem?_getD, List.getElem?_map]
  by_cases c : i < p.bare + 1
  · rw [List.getElem?_range c]
    rfl
  · rw [List.getElem?_eq_none (by simp; omega), if_neg]
    · rfl
    · intro h
      have := mayBe_le h
      omega
theorem Reached.step {p : Passage} {ws : List Nat} {r : List Int} (R : Reached p ws r) (w : Nat) : Reached p (ws ++ [w]) (fartherM p w r) := by
  have ne : ∀ i, gainsL p w i r ≠ [] := fun i e => R.some (List.map_eq_nil_iff.mp e)
  refine ⟨by simp [fartherM], fun l h => ?_, fun i h => ?_⟩
  · obtain ⟨m, i, rfl, em⟩ := snoc_of (l := l) (n := ws.length) (by have := ok_len p _ _ h; simpa using this)
    rw [ok_append p ws m [w] [i] em, ok_one, Bool.and_eq_true] at h
    rw [lastOf_snoc, farther_get, if_pos h.2, gains_append p ws m [w] [i] p.bare em, gains_one, total_append, total_cons]
    obtain ⟨_, g2⟩ := maxL_spec _ (ne i)
    have u := R.up m h.1
    have q := lastOf_le h.1
    have z := g2 (r.getD (lastOf p.bare m) (-1) + (p.gain (lastOf p.bare m) i w : Int)) (List.mem_map.mpr ⟨_, mem_aheadL.mpr ⟨by rw [R.len]; omega, by omega⟩, rfl⟩)
    have t0 : total [] = 0 := rfl
    rw [t0]
    omega
  · rw [farther_get] at h ⊢
    by_cases c : mayBe p w i = true
    · rw [if_pos c]
      obtain ⟨g1, _⟩ := maxL_spec _ (ne i)
      obtain ⟨b, hb, e⟩ := List.mem_map.mp g1
      obtain ⟨_, hb2⟩ := mem_aheadL.mp hb
      obtain ⟨m, h1, h2, h3⟩ := R.at_ b hb2
      have em := ok_len p _ _ h1
      refine ⟨m ++ [i], ?_, lastOf_snoc _ _ _, ?_⟩
      · rw [ok_append p ws m [w] [i] em, ok_one, h1, c]
        rfl
      · rw [gains_append p ws m [w] [i] p.bare em, gains_one, total_append, total_cons, h2]
        have t0 : total [] = 0 := rfl
        rw [t0]
        omega
    · rw [if_neg c] at h
      omega
theorem reached (p : Passage) (ws : List Nat) : Reached p ws (reach p ws) := by
  have h : ∀ (ws' ws : List Nat) (r : List Int), Reached p ws r → Reached p (ws ++ ws') (ws'.foldl (fun r w => fartherM p w r) r) := by
    intro ws'
    induction ws' with
    | nil => intro ws r R; rw [List.append_nil]; exact R
    | cons w ws' ih =>
      intro ws r R
      have := ih (ws ++ [w]) _ (R.step w)
      rw [List.append_assoc] at this
      exact this
  exact h ws [] _ (reached0 p)
theorem reach_most (p : Passage) (ws : List Nat) (d : Nat) : (d : Int) ≤ maxL (reach p ws) ↔ ∃ l, okFrom p ws l = true ∧ d ≤ total (p.gains p.bare ws l) := by
  have R := reached p ws
  have ne : reach p ws ≠ [] := by
    intro e
    have := R.len
    rw [e] at this
    simp at this
  obtain ⟨g1, g2⟩ := maxL_spec _ ne
  constructor
  · intro h
    obtain ⟨i, hi, e⟩ := List.mem_iff_getElem.mp g1
    have e2 : (reach p ws).getD i (-1) = maxL (reach p ws) := by
      rw [List.getD_eq_getElem?_getD, List.getElem?_eq_getElem hi, e]
      rfl
    obtain ⟨l, h1, _, h3⟩ := R.at_ i (by omega)
    exact ⟨l, h1, by omega⟩
  · rintro ⟨l, h1, h2⟩
    have u := R.up l h1
    have q := lastOf_le h1
    have hi : lastOf p.bare l < (reach p ws).length := by rw [R.len]; omega
    have e2 : (reach p ws).getD (lastOf p.bare l) (-1) ∈ reach p ws := by
      rw [List.getD_eq_getElem?_getD, List.getElem?_eq_getElem hi]
      exact List.getElem_mem hi
    have := g2 _ e2
    omega
/-! the least over all -/
def optMin : Option Nat → Option Nat → Option Nat
  | none, b => b
  | some h, none => some h
  | some h, some k => some (min h k)
theorem find_or (n : Nat) (P Q : Nat → Bool) : optMin ((List.range n).find? P) ((List.range n).find? Q) = (List.range n).find? fun h => P h || Q h := by
  induction n with
  | zero => rfl
  | succ n ih =>
    rw [List.range_succ, List.find?_append, List.find?_append, List.find?_append, ← ih]
    have bd : ∀ (R : Nat → Bool) (i : Nat), (List.range n).find? R = some i → i < n := fun R i e => List.mem_range.mp (List.mem_of_find?_eq_some e)
    cases e1 : (List.range n).find? P with
    | none =>
      cases e2 : (List.range n).find? Q with
      | none =>
        cases h1 : P n <;> cases h2 : Q n <;> simp [optMin, h1, h2]
      | some k =>
        have := bd Q k e2
        cases h1 : P n <;> cases h2 : Q n <;> simp [optMin, h1, h2] <;> omega
    | some h =>
      have := bd P h e1
      cases e2 : (List.range n).find? Q with
      | none =>
        cases h1 : P n <;> cases h2 : Q n <;> simp [optMin, h1, h2] <;> omega
      | some k =>
        have := bd Q k e2
        cases h1 : P n <;> cases h2 : Q n <;> simp [optMin, h1, h2]
theorem fold_find {α : Type} (n : Nat) (P : α → Nat → Bool) : ∀ (l : List α) (Q : Nat → Bool),
    l.foldl (fun (b : Option Nat) a => optMin ((List.range n).find? (P a)) b) ((List.range n).find? Q) = (List.range n).find? fun h => (l.any fun a => P a h) || Q h
  | [], Q => by simp
  | a :: l, Q => by
    rw [List.foldl_cons, find_or, fold_find n P l]
    congr 1
    funext h
    simp only [List.any_cons]
    cases P a h <;> simp
theorem mem_plansFrom (p : Passage) : ∀ (ws l : List Nat), l ∈ plansFrom p ws ↔ okFrom p ws l = true
  | [], l => by cases l <;> simp [plansFrom, okFrom]
  | w :: ws, [] => by simp [plansFrom, okFrom]
  | w :: ws, i :: l => by
    have ih := mem_plansFrom p ws l
    unfold plansFrom okFrom
    rw [Bool.and_eq_true, ← ih]
    simp only [List.mem_flatMap, List.mem_map, List.cons.injEq]
    constructor
    · rintro ⟨a, ha, m, hm, rfl, rfl⟩
      exact ⟨(choices_le ha).2, hm⟩
    · rintro ⟨h1, h2⟩
      refine ⟨i, ?_, l, h2, rfl, rfl⟩
      unfold choices
      exact List.mem_filter.mpr ⟨List.mem_range.mpr (by have := mayBe_le h1; omega), h1⟩
theorem soonest_eq (p : Passage) (d : Nat) : p.soonest d = soonM p d := by
  have e1 : p.soonest d = p.plans.foldl (fun (b : Option Nat) l => optMin ((List.range (p.winds.length + 1)).find? fun h => decide (d ≤ total ((p.gains p.bare p.winds l).take h))) b) none := by
    unfold Passage.soonest
    congr 1
  have e0 : (List.range (p.winds.length + 1)).find? (fun _ => false) = none := by simp
  rw [e1, ← e0, fold_find (p.winds.length + 1) (fun l h => decide (d ≤ total ((p.gains p.bare p.winds l).take h)))]
  unfold soonM
  have cg : ∀ (l : List Nat) (P Q : Nat → Bool), (∀ a ∈ l, P a = Q a) → l.find? P = l.find? Q := by
    intro l P Q
    induction l with
    | nil => intro _; rfl
    | cons a l ih =>
      intro h
      rw [List.find?_cons, List.find?_cons, h a List.mem_cons_self, ih fun b hb => h b (List.mem_cons_of_mem _ hb)]
  refine cg _ _ _ fun h hh => ?_
  have hle : h ≤ p.winds.length := by have := List.mem_range.mp hh; omega
  rw [Bool.or_false]
  apply Bool.eq_iff_iff.mpr
  rw [List.any_eq_true, decide_eq_true_iff, reach_most, plans_eq]
  constructor
  · rintro ⟨l, hl, q⟩
    have ho := (mem_plansFrom p _ _).mp hl
    have len := ok_len p _ _ ho
    have e2 : okFrom p (p.winds.take h ++ p.winds.drop h) (l.take h ++ l.drop h) = true := by
      rw [List.take_append_drop, List.take_append_drop]
      exact ho
    have lt : (l.take h).length = (p.winds.take h).length := by simp [len]
    rw [ok_append p _ _ _ _ lt, Bool.and_eq_true] at e2
    have e3 : p.gains p.bare p.winds l = p.gains p.bare (p.winds.take h) (l.take h) ++ p.gains (lastOf p.bare (l.take h)) (p.winds.drop h) (l.drop h) := by
      rw [← gains_append p _ _ _ _ _ lt, List.take_append_drop, List.take_append_drop]
    refine ⟨l.take h, e2.1, ?_⟩
    have q' := of_decide_eq_true q
    rw [e3, List.take_append_of_le_length, List.take_of_length_le] at q'
    · exact q'
    · rw [gains_len p _ _ _ lt]; simp; omega
    · rw [gains_len p _ _ _ lt]; simp; omega
  · rintro ⟨l, hl, q⟩
    have len := ok_len p _ _ hl
    have ho : okFrom p (p.winds.take h ++ p.winds.drop h) (l ++ List.replicate (p.winds.drop h).length p.bare) = true := by
      rw [ok_append p _ _ _ _ len, hl, ok_bare]
      rfl
    have e3 := gains_append p (p.winds.take h) l (p.winds.drop h) (List.replicate (p.winds.drop h).length p.bare) p.bare len
    rw [List.take_append_drop] at ho e3
    refine ⟨_, (mem_plansFrom p _ _).mpr ho, decide_eq_true ?_⟩
    rw [e3, List.take_append_of_le_length, List.take_of_length_le]
    · exact q
    · rw [gains_len p _ _ _ len, len]; simp; omega
    · rw [gains_len p _ _ _ len, len]; simp; omega
end Sc
/-! The calls as one list of numbers. -/
namespace Sc
def kindOf : Uw30.Call → Nat
  | .begins _ _ => 0
  | .hour _ => 1
  | .sail _ _ _ => 2
  | .best => 3
  | .plain => 4
  | .check _ => 5
  | .soonest _ => 6
def wholesOf : Uw30.Call → List Nat
  | .begins c s => [c, s]
  | .hour w => [w]
  | .sail a b _ => [a, b]
  | .soonest d => [d]
  | _ => []
def rowOf : Uw30.Call → List Nat
  | .sail _ _ l => l
  | .check l => l
  | _ => []
def intsOf (l : List Nat) : List Int := l.map fun (n : Nat) => (n : Int)
/-- the row with how many it has, where a call has one -/
def tailOf : Uw30.Call → List Int
  | .sail _ _ l => (l.length : Int) :: intsOf l
  | .check l => (l.length : Int) :: intsOf l
  | _ => []
def flat (c : Uw30.Call) : List Int := (kindOf c : Int) :: (intsOf (wholesOf c) ++ tailOf c)
def runOf : Uw30.Passage → List Uw30.Call → List Int
  | _, [] => []
  | p, c :: cs => ((Uw30Neutral.out (Uw30.step p c).2).length : Int) :: (Uw30Neutral.out (Uw30.step p c).2 ++ runOf (Uw30.step p c).1 cs)
theorem nat_back {z : Int} (h : Uw30Neutral.nat z = true) : (z.toNat : Int) = z := by
  unfold Uw30Neutral.nat at h
  rw [Bool.and_eq_true] at h
  have := of_decide_eq_true h.1
  omega
theorem ints_back : ∀ {l : List Int}, l.all Uw30Neutral.nat = true → intsOf (l.map Int.toNat) = l
  | [], _ => rfl
  | z :: l, h => by
    rw [List.all_cons, Bool.and_eq_true] at h
    show (z.toNat : Int) :: intsOf (l.map Int.toNat) = z :: l
    rw [nat_back h.1, ints_back h.2]
theorem callOf_some {l : List Int} (h : (Uw30Neutral.callOf l).isSome = true) : l.all Uw30Neutral.nat = true ∧ Uw30Neutral.callOf l = Uw30Neutral.callIn (l.map Int.toNat) := by
  unfold Uw30Neutral.callOf at h ⊢
  by_cases c : l.all Uw30Neutral.nat = false
  · rw [if_pos c] at h
    cases h
  · rw [if_neg c]
    exact ⟨by simpa using c, rfl⟩
theorem len2 {a : List Int} (h : a.length = 2) : ∃ x y, a = [x, y] := by
  match a, h with
  | [x, y], _ => exact ⟨x, y, rfl⟩
theorem len1 {α : Type} {a : List α} (h : a.length = 1) : ∃ x, a = [x] := by
  match a, h with
  | [x], _ => exact ⟨x, rfl⟩
/-- one call that is asked: a call of the specification, whose numbers stand in the list -/
theorem one_call {c : List (List Int)} (hk : PyFlat.okCall PyUw30.shape c) (ha : Uw30Neutral.asked1 ((PyUw30.whole c).headD []) = true) :
    ∃ x : Uw30.Call, Uw30Neutral.callOf ((PyUw30.whole c).headD []) = some x ∧ PyFlat.put1 c = flat x ∧ (rowOf x).length ≤ 20 := by
  obtain ⟨p, a, xs, rfl, hs⟩ := hk
  unfold Uw30Neutral.asked1 at ha
  unfold PyUw30.shape at hs
  by_cases h0 : p = 0
  · rw [if_pos h0] at hs
    obtain ⟨e1, e2⟩ := Prod.mk.inj (Option.some.inj hs)
    obtain ⟨x, y, rfl⟩ := len2 e1.symm
    have ex : xs = [] := List.length_eq_zero_iff.mp e2.symm
    subst h0 ex
    have w : (PyUw30.whole [[0, x, y]]).headD [] = [0, x, y] := rfl
    rw [w] at ha ⊢
    obtain ⟨q1, q2⟩ := callOf_some ha
    have q3 := ints_back q1
    refine ⟨.begins x.toNat y.toNat, q2, ?_, Nat.zero_le _⟩
    exact q3.symm
  rw [if_neg h0] at hs
  by_cases h1 : p = 1
  · rw [if_pos h1] at hs
    obtain ⟨e1, e2⟩ := Prod.mk.inj (Option.some.inj hs)
    obtain ⟨x, rfl⟩ := len1 e1.symm
    have ex : xs = [] := List.length_eq_zero_iff.mp e2.symm
    subst h1 ex
    have w : (PyUw30.whole [[1, x]]).headD [] = [1, x] := rfl
    rw [w] at ha ⊢
    obtain ⟨q1, q2⟩ := callOf_some ha
    have q3 := ints_back q1
    exact ⟨.hour x.toNat, q2, q3.symm, Nat.zero_le _⟩
  rw [if_neg h1] at hs
  by_cases h2 : p = 2
  · rw [if_pos h2] at hs
    obtain ⟨e1, e2⟩ := Prod.mk.inj (Option.some.inj hs)
    obtain ⟨x, y, rfl⟩ := len2 e1.symm
    obtain ⟨r, rfl⟩ := len1 e2.symm
    subst h2
    have w : (PyUw30.whole [[2, x, y], r]).headD [] = 2 :: x :: y :: r := rfl
    rw [w] at ha ⊢
    obtain ⟨q1, q2⟩ := callOf_some ha
    have q4 : Uw30Neutral.callIn ((2 :: x :: y :: r).map Int.toNat) = if (r.map Int.toNat).length ≤ 20 then some (.sail x.toNat y.toNat (r.map Int.toNat)) else none := rfl
    have q5 : (r.map Int.toNat).length ≤ 20 := by
      by_cases q : (r.map Int.toNat).length ≤ 20
      · exact q
      · rw [q2, q4, if_neg q] at ha
        cases ha
    rw [if_pos q5] at q4
    have q3 := ints_back q1
    refine ⟨.sail x.toNat y.toNat (r.map Int.toNat), q2.trans q4, ?_, q5⟩
    have q6 : (2 : Int) :: (x.toNat : Int) :: (y.toNat : Int) :: intsOf (r.map Int.toNat) = 2 :: x :: y :: r := q3
    injection q6 with _ q6
    injection q6 with qx q6
    injection q6 with qy qr
    show [2, x, y] ++ ((r.length : Int) :: r ++ []) = (2 : Int) :: ([(x.toNat : Int), (y.toNat : Int)] ++ (((r.map Int.toNat).length : Int) :: intsOf (r.map Int.toNat)))
    rw [qx, qy, qr, List.length_map, List.append_nil]
    rfl
  rw [if_neg h2] at hs
  by_cases h3 : p = 3
  · rw [if_pos h3] at hs
    obtain ⟨e1, e2⟩ := Prod.mk.inj (Option.some.inj hs)
    have ea : a = [] := List.length_eq_zero_iff.mp e1.symm
    have ex : xs = [] := List.length_eq_zero_iff.mp e2.symm
    subst h3 ea ex
    exact ⟨.best, rfl, rfl, Nat.zero_le _⟩
  rw [if_neg h3] at hs
  by_cases h4 : p = 4
  · rw [if_pos h4] at hs
    obtain ⟨e1, e2⟩ := Prod.mk.inj (Option.some.inj hs)
    have ea : a = [] := List.length_eq_zero_iff.mp e1.symm
    have ex : xs = [] := List.length_eq_zero_iff.mp e2.symm
    subst h4 ea ex
    exact ⟨.plain, rfl, rfl, Nat.zero_le _⟩
  rw [if_neg h4] at hs
  by_cases h5 : p = 5
  · rw [if_pos h5] at hs
    obtain ⟨e1, e2⟩ := Prod.mk.inj (Option.some.inj hs)
    have ea : a = [] := List.length_eq_zero_iff.mp e1.symm
    obtain ⟨r, rfl⟩ := len1 e2.symm
    subst h5 ea
    have w : (PyUw30.whole [[5], r]).headD [] = 5 :: r := rfl
    rw [w] at ha ⊢
    obtain ⟨q1, q2⟩ := callOf_some ha
    have q4 : Uw30Neutral.callIn ((5 :: r).map Int.toNat) = if (r.map Int.toNat).length ≤ 12 then some (.check (r.map Int.toNat)) else none := by
      rw [List.map_cons]
      show Uw30Neutral.callIn (5 :: r.map Int.toNat) = _
      cases r.map Int.toNat <;> rfl
    have q5 : (r.map Int.toNat).length ≤ 12 := by
      by_cases q : (r.map Int.toNat).length ≤ 12
      · exact q
      · rw [q2, q4, if_neg q] at ha
        cases ha
    rw [if_pos q5] at q4
    have q3 := ints_back q1
    refine ⟨.check (r.map Int.toNat), q2.trans q4, ?_, Nat.le_trans q5 (by decide)⟩
    have q6 : (5 : Int) :: intsOf (r.map Int.toNat) = 5 :: r := q3
    injection q6 with _ qr
    show [5] ++ ((r.length : Int) :: r ++ []) = (5 : Int) :: ([] ++ (((r.map Int.toNat).length : Int) :: intsOf (r.map Int.toNat)))
    rw [qr, List.length_map, List.append_nil]
    rfl
  rw [if_neg h5] at hs
  by_cases h6 : p = 6
  · rw [if_pos h6] at hs
    obtain ⟨e1, e2⟩ := Prod.mk.inj (Option.some.inj hs)
    obtain ⟨x, rfl⟩ := len1 e1.symm
    have ex : xs = [] := List.length_eq_zero_iff.mp e2.symm
    subst h6 ex
    have w : (PyUw30.whole [[6, x]]).headD [] = [6, x] := rfl
    rw [w] at ha ⊢
    obtain ⟨q1, q2⟩ := callOf_some ha
    have q3 := ints_back q1
    exact ⟨.soonest x.toNat, q2, q3.symm, Nat.zero_le _⟩
  rw [if_neg h6] at hs
  cases hs
/-- all calls -/
theorem all_calls : ∀ (raw : List (List (List Int))), (∀ c ∈ raw, PyFlat.okCall PyUw30.shape c) → (∀ c ∈ raw, Uw30Neutral.asked1 ((PyUw30.whole c).headD []) = true) →
    ∃ cs : List Uw30.Call, cs.length = raw.length ∧ PyFlat.put raw = cs.flatMap flat ∧ (∀ x ∈ cs, (rowOf x).length ≤ 20) ∧
      ∀ p, PyFlat.told (PyFlat.played (fun s c => Uw30Neutral.step s (c.headD [])) p (raw.map PyUw30.whole)) = runOf p cs
  | [], _, _ => ⟨[], rfl, rfl, fun x hx => (by cases hx), fun p => rfl⟩
  | c :: raw, h1, h2 => by
    obtain ⟨cs, e1, e2, e3, e4⟩ := all_calls raw (fun d hd => h1 d (List.mem_cons_of_mem _ hd)) fun d hd => h2 d (List.mem_cons_of_mem _ hd)
    obtain ⟨x, x1, x2, x3⟩ := one_call (h1 c List.mem_cons_self) (h2 c List.mem_cons_self)
    refine ⟨x :: cs, by simp [e1], ?_, fun y hy => ?_, fun p => ?_⟩
    · show PyFlat.put1 c ++ PyFlat.put raw = flat x ++ cs.flatMap flat
      rw [x2, e2]
    · rcases List.mem_cons.mp hy with rfl | hy
      · exact x3
      · exact e3 y hy
    · have es : Uw30Neutral.step p ((PyUw30.whole c).headD []) = ((Uw30.step p x).1, Uw30Neutral.out (Uw30.step p x).2) := by
        unfold Uw30Neutral.step
        rw [x1]
      show ((Uw30Neutral.step p ((PyUw30.whole c).headD [])).2.length : Int) :: ((Uw30Neutral.step p ((PyUw30.whole c).headD [])).2 ++
        PyFlat.told (PyFlat.played (fun s c => Uw30Neutral.step s (c.headD [])) (Uw30Neutral.step p ((PyUw30.whole c).headD [])).1 (raw.map PyUw30.whole))) = runOf p (x :: cs)
      rw [es, e4]
      rfl
/-- what is asked, as calls -/
theorem asked_calls {l : List Int} (h : PyUw30.answers_asked l = true) : ∃ cs : List Uw30.Call, cs.length ≤ 60 ∧ l = cs.flatMap flat ∧ (∀ x ∈ cs, (rowOf x).length ≤ 20) ∧ PyUw30.answers l = runOf Uw30.init cs := by
  unfold PyUw30.answers_asked at h
  cases e : PyFlat.calls PyUw30.shape l.length l with
  | none =>
    rw [e] at h
    cases h
  | some raw =>
    rw [e] at h
    simp only [Bool.and_eq_true] at h
    obtain ⟨⟨⟨⟨_, h2⟩, _⟩, h4⟩, _⟩ := h
    obtain ⟨p1, p2⟩ := PyFlat.put_calls _ _ _ e
    unfold Uw30Neutral.asked at h4
    rw [Bool.and_eq_true] at h4
    have h5 := List.all_eq_true.mp h4.1
    obtain ⟨cs, e1, e2, e3, e4⟩ := all_calls raw p2 fun c hc => h5 _ (List.mem_map.mpr ⟨_, List.mem_map.mpr ⟨c, hc, rfl⟩, rfl⟩)
    refine ⟨cs, ?_, p1.trans e2, e3, ?_⟩
    · rw [e1]
      exact of_decide_eq_true h2
    · unfold PyUw30.answers PyUw30.calls
      rw [e]
      exact e4 _
end Sc
/-! ## The walk: how the data lie in the heap, the promises, short words -/
namespace Sc
open PySem PySem.Spec PyProof.Rows L2
/-! ### the text by places -/
def top (i : Nat) : Stmt := PySem.Challenge.pw_sailchanges_s01_answers.main.body.getD i (.Pass ⟨0, 0, 0, 0⟩)
abbrev sInitS : Stmt := inClass (top 6) 0
abbrev sInitP : Stmt := inClass (top 7) 0
abbrev sInitB : Stmt := inClass (top 8) 0
abbrev sInitD : Stmt := inClass (top 38) 0
/-! ### calls in short -/
/-- a def of the module that keeps a promise, by its name -/
structure Cal (P : Program) (w : World) (K : PySem.W.Frag) (mg : Str → Option Value) (base : Heap) (x : Str) (k : Nat) (ps : List Str) (sp : Sp) : Prop where
  ex : ∃ (f : Addr) (fd : FuncData), FnOk P w K mg base CX0 k f fd ps sp ∧ mg x = some (.ref f) ∧ PySem.W.keepIn K (.ref f) = true ∧ Binds K fd ps []
theorem pe_cal {X : Cx} {k j : Nat} {ps : List Str} {sp : Sp} {x : Str} {p pos : Pos} {e : Expr} {es : List Expr} {t : TA} (C : Cal X.prog X.w X.K X.mg X.base x k ps sp) (hr : Room j X.A) (ha : PA X (e :: es) t) (hkj : k ≤ j := by decide) (hg : Gl X x := by rfl)
    (hdb : (x == ("__debug__" : Str)) = false := by decide) (he : starEach (e :: es) X.env = (false, eval e X.env) :: starEach es X.env := by rfl) (hpl : (backTo pos (starEach es X.env)).any (·.1) = false := by rfl) :
    PE X (.Call (.Name x p) (e :: es) [] pos) (tCall sp [] E0 t) := by
  obtain ⟨f, fd, F, hm, hk, hb⟩ := C.ex
  exact pe_call F (hr.mono hkj) hg hm hk hb .nil pass0 ha hdb he hpl
/-- a class of the module that is made by an __init__ which keeps a promise -/
structure Mak (P : Program) (w : World) (K : PySem.W.Frag) (mg : Str → Option Value) (base : Heap) (x : Str) (C : Addr) (k : Nat) (ps : List Str) (sp : Sp) : Prop where
  ex : ∃ (f : Addr) (fd : FuncData), Mk K C f ∧ FnOk P w K mg base CX0 k f fd ps sp ∧ mg x = some (.ref C) ∧ Binds K fd ps []
theorem pe_mak {X : Cx} {k j : Nat} {C : Addr} {ps : List Str} {sp : Sp} {x : Str} {p pos : Pos} {e : Expr} {es : List Expr} {t : TA} (M : Mak X.prog X.w X.K X.mg X.base x C k ps sp) (hr : Room j X.A) (ha : PA X (e :: es) t) (hkj : k + 1 ≤ j := by decide) (hg : Gl X x := by rfl)
    (hdb : (x == ("__debug__" : Str)) = false := by decide) (he : starEach (e :: es) X.env = (false, eval e X.env) :: starEach es X.env := by rfl) (hpl : (backTo pos (starEach es X.env)).any (·.1) = false := by rfl) :
    PE X (.Call (.Name x p) (e :: es) [] pos) (tMake C sp [] E0 t) := by
  obtain ⟨f, fd, M, F, hm, hb⟩ := M.ex
  exact pe_make M F (hr.mono hkj) hg hm hb .nil pass0 ha hdb he hpl
theorem pe_mak0 {X : Cx} {k j : Nat} {C : Addr} {ps : List Str} {sp : Sp} {x : Str} {p pos : Pos} (M : Mak X.prog X.w X.K X.mg X.base x C k ps sp) (hr : Room j X.A) (hkj : k + 1 ≤ j := by decide) (hg : Gl X x := by rfl)
    (hdb : (x == ("__debug__" : Str)) = false := by decide) : PE X (.Call (.Name x p) [] [] pos) (tMake C sp [] E0 tNil) := by
  obtain ⟨f, fd, M, F, hm, hb⟩ := M.ex
  exact pe_make0 M F (hr.mono hkj) hg hm hb .nil pass0 hdb
/-! ### the heap -/
def nV (l : List Nat) : List V := l.map fun (n : Nat) => V.int (n : Int)
theorem nV_len (l : List Nat) : (nV l).length = l.length := List.length_map _
theorem nV_get {l : List Nat} {i x : Nat} (h : l[i]? = some x) : (nV l)[i]? = some (V.int x) := by
  unfold nV
  rw [List.getElem?_map, h]
  rfl
theorem nV_ints (l : List Nat) : nV l = (l.map fun (n : Nat) => (n : Int)).map V.int := by
  unfold nV
  rw [List.map_map]
  rfl
theorem nV_append (l m : List Nat) : nV (l ++ m) = nV l ++ nV m := List.map_append
theorem nV_of {l : List Nat} {i : Nat} {x : V} (h : (nV l)[i]? = some x) : ∃ n, l[i]? = some n ∧ x = V.int (n : Int) := by
  unfold nV at h
  rw [List.getElem?_map] at h
  cases e : l[i]? with
  | none => rw [e] at h; cases h
  | some n => rw [e] at h; exact ⟨n, rfl, (Option.some.inj h).symm⟩
theorem getD_get {l : List Nat} {i : Nat} (h : i < l.length) : l[i]? = some (l.getD i 0) := by
  rw [List.getD_eq_getElem?_getD, List.getElem?_eq_getElem h]
  rfl
theorem take_snoc {α : Type} {l : List α} {i : Nat} {x : α} (h : l[i]? = some x) : l.take (i + 1) = l.take i ++ [x] := by
  rw [List.take_add_one, h]
  rfl
theorem same_upd {H : Hp} {p : Addr} {o : HO} (h : H p = none) : Same H (upd H p o) := fun b u e => by
  rw [upd_ne (ne_of_none e h)]
  exact e
theorem lk_here {k : Str} {v : V} {r : List (Str × V)} : List.lookup k ((k, v) :: r) = some v := by
  have e : (k == k) = true := beq_self_eq_true k
  simp only [List.lookup, e]
theorem lk_past {k g : Str} {v : V} {r : List (Str × V)} (h : (k == g) = false) : List.lookup k ((g, v) :: r) = List.lookup k r := by
  simp only [List.lookup, h]
theorem put_here {f : Str} {v x : V} {r : List (Str × V)} : putF f v ((f, x) :: r) = (f, v) :: r := if_pos rfl
theorem put_past {f g : Str} {v x : V} {r : List (Str × V)} (h : ¬ g = f) : putF f v ((g, x) :: r) = (g, x) :: putF f v r := if_neg h
/-! the attributes -/
def sF (x : Uw30.Sail) (r : Addr) : List (Str × V) := [("least", .int x.lo), ("greatest", .int x.hi), ("row", .ref r)]
def pF (c s : Nat) (wl sl : Addr) : List (Str × V) := [("change", .int c), ("setting", .int s), ("winds", .ref wl), ("sails", .ref sl)]
def bF (x : Uw30.Best) (l : Addr) : List (Str × V) := [("far", .int x.first), ("changes", .int x.second), ("many", .int x.many), ("plan", .ref l)]
def dF (a : Addr) : List (Str × V) := [("passage", .ref a)]
theorem sF_1 (x : Uw30.Sail) (r : Addr) : (sF x r).lookup ("least" : Str) = some (.int x.lo) := lk_here
theorem sF_2 (x : Uw30.Sail) (r : Addr) : (sF x r).lookup ("greatest" : Str) = some (.int x.hi) := (lk_past (by decide +kernel)).trans lk_here
theorem sF_3 (x : Uw30.Sail) (r : Addr) : (sF x r).lookup ("row" : Str) = some (.ref r) := (lk_past (by decide +kernel)).trans ((lk_past (by decide +kernel)).trans lk_here)
theorem pF_1 (c s : Nat) (wl sl : Addr) : (pF c s wl sl).lookup ("change" : Str) = some (.int c) := lk_here
theorem pF_2 (c s : Nat) (wl sl : Addr) : (pF c s wl sl).lookup ("setting" : Str) = some (.int s) := (lk_past (by decide +kernel)).trans lk_here
theorem pF_3 (c s : Nat) (wl sl : Addr) : (pF c s wl sl).lookup ("winds" : Str) = some (.ref wl) := (lk_past (by decide +kernel)).trans ((lk_past (by decide +kernel)).trans lk_here)
theorem pF_4 (c s : Nat) (wl sl : Addr) : (pF c s wl sl).lookup ("sails" : Str) = some (.ref sl) := (lk_past (by decide +kernel)).trans ((lk_past (by decide +kernel)).trans ((lk_past (by decide +kernel)).trans lk_here))
theorem bF_1 (x : Uw30.Best) (l : Addr) : (bF x l).lookup ("far" : Str) = some (.int x.first) := lk_here
theorem bF_2 (x : Uw30.Best) (l : Addr) : (bF x l).lookup ("changes" : Str) = some (.int x.second) := (lk_past (by decide +kernel)).trans lk_here
theorem bF_3 (x : Uw30.Best) (l : Addr) : (bF x l).lookup ("many" : Str) = some (.int x.many) := (lk_past (by decide +kernel)).trans ((lk_past (by decide +kernel)).trans lk_here)
theorem bF_4 (x : Uw30.Best) (l : Addr) : (bF x l).lookup ("plan" : Str) = some (.ref l) := (lk_past (by decide +kernel)).trans ((lk_past (by decide +kernel)).trans ((lk_past (by decide +kernel)).trans lk_here))
theorem dF_1 (a : Addr) : (dF a).lookup ("passage" : Str) = some (.ref a) := lk_here
theorem sF_new (x : Uw30.Sail) (r : Addr) : putF "row" (.ref r) (putF "greatest" (.int x.hi) (putF "least" (.int x.lo) [])) = sF x r := by
  show putF "row" (.ref r) (putF "greatest" (.int x.hi) [("least", .int x.lo)]) = sF x r
  rw [put_past (by decide +kernel)]
  show putF "row" (.ref r) [("least", .int x.lo), ("greatest", .int x.hi)] = sF x r
  rw [put_past (by decide +kernel), put_past (by decide +kernel)]
  rfl
theorem pF_new (c s : Nat) (wl sl : Addr) : putF "sails" (.ref sl) (putF "winds" (.ref wl) (putF "setting" (.int s) (putF "change" (.int c) []))) = pF c s wl sl := by
  show putF "sails" (.ref sl) (putF "winds" (.ref wl) (putF "setting" (.int s) [("change", .int c)])) = pF c s wl sl
  rw [put_past (by decide +kernel)]
  show putF "sails" (.ref sl) (putF "winds" (.ref wl) [("change", .int c), ("setting", .int s)]) = pF c s wl sl
  rw [put_past (by decide +kernel), put_past (by decide +kernel)]
  show putF "sails" (.ref sl) [("change", .int c), ("setting", .int s), ("winds", .ref wl)] = pF c s wl sl
  rw [put_past (by decide +kernel), put_past (by decide +kernel), put_past (by decide +kernel)]
  rfl
theorem bF_new (x : Uw30.Best) (l : Addr) : putF "plan" (.ref l) (putF "many" (.int x.many) (putF "changes" (.int x.second) (putF "far" (.int x.first) []))) = bF x l := by
  show putF "plan" (.ref l) (putF "many" (.int x.many) (putF "changes" (.int x.second) [("far", .int x.first)])) = bF x l
  rw [put_past (by decide +kernel)]
  show putF "plan" (.ref l) (putF "many" (.int x.many) [("far", .int x.first), ("changes", .int x.second)]) = bF x l
  rw [put_past (by decide +kernel), put_past (by decide +kernel)]
  show putF "plan" (.ref l) [("far", .int x.first), ("changes", .int x.second), ("many", .int x.many)] = bF x l
  rw [put_past (by decide +kernel), put_past (by decide +kernel), put_past (by decide +kernel)]
  rfl
theorem dF_put (a b : Addr) : putF "passage" (.ref b) (dF a) = dF b := put_here
/-! a passage -/
/-- what a passage keeps to -/
structure Good (p : Uw30.Passage) : Prop where
  hours : p.winds.length ≤ 6
  sails : p.sails.length ≤ 4
  row : ∀ x ∈ p.sails, 0 < x.drives.length ∧ x.drives.length ≤ 12
/-- a sail at c; its row, one of the lists of fp, is neither of the passage's own lists -/
def SailAt (CS : Addr) (H : Hp) (wl sl : Addr) (fp : List Addr) (c : Addr) (x : Uw30.Sail) : Prop :=
  ∃ dx r, H c = some (.ins CS dx (sF x r)) ∧ H r = some (.lst (nV x.drives)) ∧ r ∈ fp ∧ r ≠ wl ∧ r ≠ sl
/-- a passage at a: the list of its winds at wl, of its sails at sl; fp: all its lists -/
structure PassAt (CS CP : Addr) (H : Hp) (a wl sl : Addr) (fp : List Addr) (p : Uw30.Passage) : Prop where
  good : Good p
  obj : ∃ dx, H a = some (.ins CP dx (pF p.change p.set_ wl sl))
  winds : H wl = some (.lst (nV p.winds))
  sails : ∃ as : List Addr, H sl = some (.lst (as.map V.ref)) ∧ as.length = p.sails.length ∧ ∀ (j : Nat) (x : Uw30.Sail), p.sails[j]? = some x → ∃ c : Addr, as[j]? = some c ∧ SailAt CS H wl sl fp c x
  ne : wl ≠ sl
  mw : wl ∈ fp
  ms : sl ∈ fp
theorem SailAt.keep {CS : Addr} {H H' : Hp} {wl sl c : Addr} {fp : List Addr} {x : Uw30.Sail} (h : SailAt CS H wl sl fp c x) (k : ∀ b o, H b = some o → ((b ∈ fp ∧ b ≠ wl ∧ b ≠ sl) ∨ ∃ C dx fs, o = .ins C dx fs) → H' b = some o) : SailAt CS H' wl sl fp c x := by
  obtain ⟨dx, r, h1, h2, h3, h4, h5⟩ := h
  exact ⟨dx, r, k _ _ h1 (.inr ⟨_, _, _, rfl⟩), k _ _ h2 (.inl ⟨h3, h4, h5⟩), h3, h4, h5⟩
theorem PassAt.keep {CS CP : Addr} {H H' : Hp} {a wl sl : Addr} {fp : List Addr} {p : Uw30.Passage} (h : PassAt CS CP H a wl sl fp p) (k : ∀ b o, H b = some o → (b ∈ fp ∨ ∃ C dx fs, o = .ins C dx fs) → H' b = some o) : PassAt CS CP H' a wl sl fp p := by
  obtain ⟨g, ⟨dx, h1⟩, h2, ⟨as, h3, h4, h5⟩, h6, h7, h8⟩ := h
  refine ⟨g, ⟨dx, k _ _ h1 (.inr ⟨_, _, _, rfl⟩)⟩, k _ _ h2 (.inl h7), ⟨as, k _ _ h3 (.inl h8), h4, fun j x hx => ?_⟩, h6, h7, h8⟩
  obtain ⟨c, hc, q⟩ := h5 j x hx
  exact ⟨c, hc, q.keep fun b o e z => k b o e (z.elim (fun z => .inl z.1) .inr)⟩
theorem PassAt.same {CS CP : Addr} {H H' : Hp} {a wl sl : Addr} {fp : List Addr} {p : Uw30.Passage} (h : PassAt CS CP H a wl sl fp p) (s : Same H H') : PassAt CS CP H' a wl sl fp p := h.keep fun b o e _ => s b o e
/-- the sail of a number -/
theorem PassAt.sail {CS CP : Addr} {H : Hp} {a wl sl : Addr} {fp : List Addr} {p : Uw30.Passage} (h : PassAt CS CP H a wl sl fp p) {i : Nat} (hi : i < p.bare) :
    ∃ (as : List Addr) (c dx r : Addr), H sl = some (.lst (as.map V.ref)) ∧ (as.map V.ref)[i]? = some (V.ref c) ∧ H c = some (.ins CS dx (sF (p.sail i) r)) ∧ H r = some (.lst (nV (p.sail i).drives)) ∧ 0 < (p.sail i).drives.length := by
  obtain ⟨as, h3, h4, h5⟩ := h.sails
  have e : p.sails[i]? = some (p.sail i) := by
    unfold Uw30.Passage.sail
    rw [List.getD_eq_getElem?_getD, List.getElem?_eq_getElem (show i < p.sails.length from hi)]
    rfl
  obtain ⟨c, hc, dx, r, q1, q2, _⟩ := h5 i _ e
  exact ⟨as, c, dx, r, h3, by rw [List.getElem?_map, hc]; rfl, q1, q2, (h.good.row _ (List.mem_of_getElem? e)).1⟩
theorem PassAt.slen {CS CP : Addr} {H : Hp} {a wl sl : Addr} {fp : List Addr} {p : Uw30.Passage} (h : PassAt CS CP H a wl sl fp p) : ∃ xs : List V, H sl = some (.lst xs) ∧ xs.length = p.bare := by
  obtain ⟨as, h3, h4, _⟩ := h.sails
  exact ⟨_, h3, by rw [List.length_map]; exact h4⟩
/-- what the top has written of the classes, constants and built-ins -/
structure Txt (K : PySem.W.Frag) (mg : Str → Option Value) (CS CP CB CD : Addr) : Prop where
  clS : Cls K CS
  clP : Cls K CP
  clB : Cls K CB
  clD : Cls K CD
  nS1 : NoAttr K CS "least"
  nS2 : NoAttr K CS "greatest"
  nS3 : NoAttr K CS "row"
  nP1 : NoAttr K CP "change"
  nP2 : NoAttr K CP "setting"
  nP3 : NoAttr K CP "winds"
  nP4 : NoAttr K CP "sails"
  nB1 : NoAttr K CB "far"
  nB2 : NoAttr K CB "changes"
  nB3 : NoAttr K CB "many"
  nB4 : NoAttr K CB "plan"
  nD1 : NoAttr K CD "passage"
  len : mg "len" = none
  max : mg "max" = none
  min : mg "min" = none
  int : mg "int" = none
  range : mg "range" = none
  sum : mg "sum" = none
  list : mg "list" = none
  hours : ∃ t, mg "MOST_HOURS" = some (.int 6 t)
  sails : ∃ t, mg "MOST_SAILS" = some (.int 4 t)
  wind : ∃ t, mg "MOST_WIND" = some (.int 40 t)
  row : ∃ t, mg "MOST_ROW" = some (.int 12 t)
  far : ∃ t, mg "MOST_FAR" = some (.int 1000 t)
  right : ∃ t, mg "NOT_RIGHT" = some (.int (-1) t)
  full : ∃ t, mg "FULL" = some (.int (-5) t)
  cannot : ∃ t, mg "CANNOT" = some (.int (-6) t)
  asked : ∃ t, mg "MOST_ASKED" = some (.int 10000 t)
  wholes : ∃ a, mg "WHOLES" = some (.ref a) ∧ ∀ H : Hp, SqT K H a [.int 2, .int 1, .int 2, .int 0, .int 0, .int 0, .int 1]
  withRow : ∃ a, mg "WITH_ROW" = some (.ref a) ∧ ∀ H : Hp, SqT K H a [.int 2, .int 5]
/-! ### the promises of the reading defs -/
section
variable (K : PySem.W.Frag) (CS CP : Addr)
def spNone : Sp := fun vs H Q _ => ∃ (a wl sl : Addr) (fp : List Addr) (p : Uw30.Passage), vs = [.ref a] ∧ PassAt CS CP H a wl sl fp p ∧ Q (.int p.bare) H
def spStand : Sp := fun vs H Q _ => ∃ (a wl sl : Addr) (fp : List Addr) (p : Uw30.Passage) (i wd : Nat), vs = [.ref a, .int i, .int wd] ∧ PassAt CS CP H a wl sl fp p ∧ i < p.bare ∧ Q (.bl (Uw30.stands (p.sail i) wd)) H
def spDriven : Sp := fun vs H Q _ => ∃ (a wl sl : Addr) (fp : List Addr) (p : Uw30.Passage) (i wd : Nat), vs = [.ref a, .int i, .int wd] ∧ PassAt CS CP H a wl sl fp p ∧ i < p.bare ∧ Q (.int (Uw30.drive (p.sail i) wd : Nat)) H
def cost (p : Uw30.Passage) (b i : Nat) : Nat := if b = p.bare then p.set_ else if b = i then 0 else p.change
def spCost : Sp := fun vs H Q _ => ∃ (a wl sl : Addr) (fp : List Addr) (p : Uw30.Passage) (b i : Nat), vs = [.ref a, .int b, .int i] ∧ PassAt CS CP H a wl sl fp p ∧ Q (.int (cost p b i : Nat)) H
def spGain : Sp := fun vs H Q _ => ∃ (a wl sl : Addr) (fp : List Addr) (p : Uw30.Passage) (h b i : Nat), vs = [.ref a, .int h, .int b, .int i] ∧ PassAt CS CP H a wl sl fp p ∧ h < p.winds.length ∧ i ≤ p.bare ∧ Q (.int (p.gain b i (p.winds.getD h 0) : Nat)) H
def isChB (p : Uw30.Passage) (b i : Nat) : Bool := !decide (i = p.bare) && !decide (i = b)
def spIsCh : Sp := fun vs H Q _ => ∃ (a wl sl : Addr) (fp : List Addr) (p : Uw30.Passage) (b i : Nat), vs = [.ref a, .int b, .int i] ∧ PassAt CS CP H a wl sl fp p ∧ Q (.bl (isChB p b i)) H
def spMay : Sp := fun vs H Q _ => ∃ (a wl sl : Addr) (fp : List Addr) (p : Uw30.Passage) (h i : Nat), vs = [.ref a, .int h, .int i] ∧ PassAt CS CP H a wl sl fp p ∧ h < p.winds.length ∧ i ≤ p.bare ∧ Q (.bl (mayBe p (p.winds.getD h 0) i)) H
def spChoices : Sp := fun vs H Q _ => ∃ (a wl sl : Addr) (fp : List Addr) (p : Uw30.Passage) (h : Nat), vs = [.ref a, .int h] ∧ PassAt CS CP H a wl sl fp p ∧ h < p.winds.length ∧ ∀ D, H D = none → Q (.ref D) (upd H D (.lst (nV (choices p (p.winds.getD h 0)))))
end
theorem eq_int (i j : Nat) : decide (V.int (i : Int) = V.int (j : Int)) = decide (i = j) := by
  by_cases h : i = j
  · subst h; simp
  · rw [decide_eq_false h, decide_eq_false]
    intro e
    injection e with e
    exact h (by omega)
theorem isCh_b (p : Uw30.Passage) (b i : Nat) : (if isChB p b i = true then (1 : Int) else 0) = (isCh p b i : Int) := by
  unfold isChB isCh
  by_cases h1 : i = p.bare <;> by_cases h2 : i = b <;> simp [h1, h2]
end Sc
namespace Sc
open PySem PySem.Spec PyProof.Rows L2
section
variable {P : Program} {w : World} {K : PySem.W.Frag} {mg : Str → Option Value} {base : Heap} {CS CP CB CD : Addr}
/-! ### none_of -/
theorem scNone : FnScope ["passage"] ["passage"] (defScope (top 10)) := ⟨rfl, rfl, rfl, by decide +kernel, rfl, by decide +kernel, by decide +kernel⟩
theorem ok_none {f : Addr} {fd : FuncData} (F : Fun K "none_of" "none_of" (top 10) f fd) (T : Txt K mg CS CP CB CD) : FnOk P w K mg base CX0 1 f fd ["passage"] (spNone CS CP) := by
  refine F.ok scNone (fun vs H Q E h => ?_) (fun cdv A outer s H vs Q E hr h => ?_)
  · obtain ⟨a, wl, sl, fp, p, rfl, _⟩ := h
    rfl
  · obtain ⟨a, wl, sl, fp, p, rfl, hP, k⟩ := h
    refine ⟨_, pss_one (ps_ret (pe_callB call_len_seq (by rfl) T.len PySem.boot_len (pa_cons (pe_fld (pv 0) rfl) pa_nil))), ?_⟩
    obtain ⟨dx, ho⟩ := hP.obj
    obtain ⟨xs, h1, h2⟩ := hP.slen
    refine ⟨_, rfl, a, CP, dx, _, _, rfl, ho, T.clP, T.nP4, pF_4 _ _ _ _, sl, xs, rfl, .inl (SqL.of h1), ?_⟩
    rw [h2]
    exact k
/-! ### does_stand -/
theorem scStand : FnScope ["passage", "sail", "wind", "own"] ["passage", "sail", "wind"] (defScope (top 11)) := ⟨rfl, rfl, rfl, by decide +kernel, rfl, by decide +kernel, by decide +kernel⟩
theorem le_int (i j : Nat) : decide ((i : Int) ≤ (j : Int)) = decide (i ≤ j) := by
  by_cases h : i ≤ j
  · rw [decide_eq_true h, decide_eq_true (by omega)]
  · rw [decide_eq_false h, decide_eq_false (by omega)]
theorem ok_stand {f : Addr} {fd : FuncData} (F : Fun K "does_stand" "does_stand" (top 11) f fd) (T : Txt K mg CS CP CB CD) : FnOk P w K mg base CX0 1 f fd ["passage", "sail", "wind"] (spStand CS CP) := by
  refine F.ok scStand (fun vs H Q E h => ?_) (fun cdv A outer s H vs Q E hr h => ?_)
  · obtain ⟨a, wl, sl, fp, p, i, wd, rfl, _⟩ := h
    rfl
  · obtain ⟨a, wl, sl, fp, p, i, wd, rfl, hP, hi, k⟩ := h
    refine ⟨_, pss_cons (ps_set (i := 3) scStand.nd rfl (Or.inl rfl) (pe_ix ix_list (pe_fld (pv 0) rfl) (pv 1) (fun _ _ => rfl)))
      (pss_one (ps_ret (pe_and (pe_cmpR op_le (pe_fld (pv 3) rfl) (pv 2) (nomark _)) (pe_one (pe_cmpR op_le (pv 2) (pe_fld (pv 3) rfl) (nomark _)))))), ?_⟩
    obtain ⟨dx, ho⟩ := hP.obj
    obtain ⟨as, c, dc, r, h1, h2, h3, h4, _⟩ := hP.sail hi
    refine ⟨_, rfl, a, CP, dx, _, _, rfl, ho, T.clP, T.nP4, pF_4 _ _ _ _, _, rfl, sl, _, _, _, rfl, rfl, SqL.of h1, atI_nat h2, ?_⟩
    refine ⟨_, rfl, c, CS, dc, _, _, rfl, h3, T.clS, T.nS1, sF_1 _ _, _, rfl, _, _, rfl, rfl, _, rfl, ?_⟩
    rw [le_int]
    unfold Uw30.stands at k
    cases e : decide ((p.sail i).lo ≤ wd) with
    | false =>
      rw [e] at k
      exact iteF k
    | true =>
      rw [e, Bool.true_and, ← le_int] at k
      exact iteT ⟨_, rfl, _, rfl, c, CS, dc, _, _, rfl, h3, T.clS, T.nS2, sF_2 _ _, _, _, rfl, rfl, k⟩
end
end Sc
namespace Sc
open PySem PySem.Spec PyProof.Rows L2
section
variable {P : Program} {w : World} {K : PySem.W.Frag} {mg : Str → Option Value} {base : Heap} {CS CP CB CD : Addr}
theorem Qv {Q : VK} {v u : V} {H : Hp} (k : Q v H) (e : u = v) : Q u H := e ▸ k
/-! ### driven -/
theorem scDriven : FnScope ["passage", "sail", "wind", "own"] ["passage", "sail", "wind"] (defScope (top 12)) := ⟨rfl, rfl, rfl, by decide +kernel, rfl, by decide +kernel, by decide +kernel⟩
theorem ok_driven {f : Addr} {fd : FuncData} (F : Fun K "driven" "driven" (top 12) f fd) (T : Txt K mg CS CP CB CD) (c1 : Cal P w K mg base "does_stand" 1 ["passage", "sail", "wind"] (spStand CS CP)) :
    FnOk P w K mg base CX0 2 f fd ["passage", "sail", "wind"] (spDriven CS CP) := by
  refine F.ok scDriven (fun vs H Q E h => ?_) (fun cdv A outer s H vs Q E hr h => ?_)
  · obtain ⟨a, wl, sl, fp, p, i, wd, rfl, _⟩ := h
    rfl
  · obtain ⟨a, wl, sl, fp, p, i, wd, rfl, hP, hi, k⟩ := h
    refine ⟨_, pss_cons (ps_if (pt_not (pt_val (pe_cal c1 hr (pa_cons (pv 0) (pa_cons (pv 1) (pa_cons (pv 2) pa_nil)))))) (pss_one (ps_ret pe_int)) pss_nil)
      (pss_cons (ps_set (i := 3) scDriven.nd rfl (Or.inl rfl) (pe_ix ix_list (pe_fld (pv 0) rfl) (pv 1) (fun _ _ => rfl)))
      (pss_one (ps_ret (pe_ix ix_list (pe_fld (pv 3) rfl) (pe_callB (call_min2 rfl) (by rfl) T.min (by decide +kernel) (pa_cons (pe_op op_sub (pv 2) (pe_fld (pv 3) rfl))
        (pa_cons (pe_op op_sub (pe_callB call_len_seq (by rfl) T.len PySem.boot_len (pa_cons (pe_fld (pv 3) rfl) pa_nil)) pe_int) pa_nil))) (fun _ _ => rfl))))), ?_⟩
    refine ⟨_, rfl, _, rfl, _, rfl, a, wl, sl, fp, p, i, wd, rfl, hP, hi, _, rfl, ?_⟩
    unfold Uw30.drive at k
    cases e : Uw30.stands (p.sail i) wd with
    | false =>
      rw [e, if_neg Bool.false_ne_true] at k
      exact iteT k
    | true =>
      rw [e, if_pos rfl] at k
      refine iteF ?_
      obtain ⟨dx, ho⟩ := hP.obj
      obtain ⟨as, c, dc, r, h1, h2, h3, h4, h5⟩ := hP.sail hi
      refine ⟨_, rfl, a, CP, dx, _, _, rfl, ho, T.clP, T.nP4, pF_4 _ _ _ _, _, rfl, sl, _, _, _, rfl, rfl, SqL.of h1, atI_nat h2, ?_⟩
      have le : (p.sail i).lo ≤ wd := by
        unfold Uw30.stands at e
        rw [Bool.and_eq_true] at e
        exact of_decide_eq_true e.1
      have q : (p.sail i).drives[min (wd - (p.sail i).lo) ((p.sail i).drives.length - 1)]? = some ((p.sail i).drives.getD (min (wd - (p.sail i).lo) ((p.sail i).drives.length - 1)) 0) := getD_get (by omega)
      refine ⟨_, rfl, c, CS, dc, _, _, rfl, h3, T.clS, T.nS3, sF_3 _ _, _, rfl, _, rfl, c, CS, dc, _, _, rfl, h3, T.clS, T.nS1, sF_1 _ _, _, _, rfl, rfl, _, rfl, c, CS, dc, _, _, rfl, h3, T.clS, T.nS3, sF_3 _ _, r, _, rfl, .inl (SqL.of h4),
        _, _, rfl, rfl, _, _, rfl, r, _, _, _, rfl, rfl, SqL.of h4, at_of (j := min (wd - (p.sail i).lo) ((p.sail i).drives.length - 1)) ?_ (nV_get q), k⟩
      rw [nV_len]
      split <;> omega
/-! ### cost_of -/
theorem scCost : FnScope ["passage", "before", "sail"] ["passage", "before", "sail"] (defScope (top 13)) := ⟨rfl, rfl, rfl, by decide +kernel, rfl, by decide +kernel, by decide +kernel⟩
theorem ok_cost {f : Addr} {fd : FuncData} (F : Fun K "cost_of" "cost_of" (top 13) f fd) (T : Txt K mg CS CP CB CD) (c1 : Cal P w K mg base "none_of" 1 ["passage"] (spNone CS CP)) :
    FnOk P w K mg base CX0 2 f fd ["passage", "before", "sail"] (spCost CS CP) := by
  refine F.ok scCost (fun vs H Q E h => ?_) (fun cdv A outer s H vs Q E hr h => ?_)
  · obtain ⟨a, wl, sl, fp, p, b, i, rfl, _⟩ := h
    rfl
  · obtain ⟨a, wl, sl, fp, p, b, i, rfl, hP, k⟩ := h
    refine ⟨_, pss_cons (ps_if (pt_cmpR op_eq (pv 1) (pe_cal c1 hr (pa_cons (pv 0) pa_nil)) (nomark _)) (pss_one (ps_ret (pe_fld (pv 0) rfl))) pss_nil)
      (pss_one (ps_ret (pe_op op_mul (pe_fld (pv 0) rfl) (pe_callTy call_int1 (by rfl) T.int (by decide +kernel) (pa_cons (pe_cmpR op_ne (pv 1) (pv 2) (nomark _)) pa_nil))))), ?_⟩
    obtain ⟨dx, ho⟩ := hP.obj
    refine ⟨_, rfl, _, rfl, a, wl, sl, fp, p, rfl, hP, rfl, _, rfl, ?_⟩
    rw [eq_int]
    unfold cost at k
    by_cases c : b = p.bare
    · rw [if_pos c] at k
      rw [decide_eq_true c]
      exact iteT ⟨_, rfl, a, CP, dx, _, _, rfl, ho, T.clP, T.nP2, pF_2 _ _ _ _, k⟩
    · rw [if_neg c] at k
      rw [decide_eq_false c]
      refine iteF ⟨_, rfl, a, CP, dx, _, _, rfl, ho, T.clP, T.nP1, pF_1 _ _ _ _, _, rfl, _, rfl, rfl, .inr ⟨_, rfl, _, _, rfl, rfl, .inr ?_, ?_⟩⟩
      · split <;> decide
      · rw [eq_int]
        by_cases c2 : b = i
        · rw [if_pos c2] at k
          rw [decide_eq_true c2]
          have e : (p.change : Int) * (if (!true) = true then 1 else 0) = ((0 : Nat) : Int) := by simp
          exact Qv k (congrArg V.int e)
        · rw [if_neg c2] at k
          rw [decide_eq_false c2]
          have e : (p.change : Int) * (if (!false) = true then 1 else 0) = (p.change : Int) := by simp
          exact Qv k (congrArg V.int e)
/-! ### gain -/
theorem scGain : FnScope ["passage", "hour", "before", "sail"] ["passage", "hour", "before", "sail"] (defScope (top 14)) := ⟨rfl, rfl, rfl, by decide +kernel, rfl, by decide +kernel, by decide +kernel⟩
theorem gain_eq (p : Uw30.Passage) (b i wd : Nat) (h : ¬ i = p.bare) : p.gain b i wd = Uw30.drive (p.sail i) wd - cost p b i := by
  unfold Uw30.Passage.gain cost
  rw [if_neg h]
  by_cases c1 : b = i
  · have c2 : ¬ b = p.bare := by omega
    rw [if_pos c1, if_neg c2, if_pos c1]
  · rw [if_neg c1]
    by_cases c2 : b = p.bare
    · rw [if_pos c2, if_pos c2]
    · rw [if_neg c2, if_neg c2, if_neg c1]
theorem ok_gain {f : Addr} {fd : FuncData} (F : Fun K "gain" "gain" (top 14) f fd) (T : Txt K mg CS CP CB CD) (c1 : Cal P w K mg base "none_of" 1 ["passage"] (spNone CS CP)) (c2 : Cal P w K mg base "driven" 2 ["passage", "sail", "wind"] (spDriven CS CP))
    (c3 : Cal P w K mg base "cost_of" 2 ["passage", "before", "sail"] (spCost CS CP)) : FnOk P w K mg base CX0 3 f fd ["passage", "hour", "before", "sail"] (spGain CS CP) := by
  refine F.ok scGain (fun vs H Q E h => ?_) (fun cdv A outer s H vs Q E hr h => ?_)
  · obtain ⟨a, wl, sl, fp, p, h, b, i, rfl, _⟩ := h
    rfl
  · obtain ⟨a, wl, sl, fp, p, h, b, i, rfl, hP, hh, hi, k⟩ := h
    refine ⟨_, pss_cons (ps_if (pt_cmpR op_eq (pv 3) (pe_cal c1 hr (pa_cons (pv 0) pa_nil)) (nomark _)) (pss_one (ps_ret pe_int)) pss_nil)
      (pss_one (ps_ret (pe_callB (call_max2 rfl) (by rfl) T.max (by decide +kernel) (pa_cons pe_int (pa_cons (pe_op op_sub (pe_cal c2 hr (pa_cons (pv 0) (pa_cons (pv 3) (pa_cons (pe_ix ix_list (pe_fld (pv 0) rfl) (pv 1) (fun _ _ => rfl)) pa_nil))))
        (pe_cal c3 hr (pa_cons (pv 0) (pa_cons (pv 2) (pa_cons (pv 3) pa_nil))))) pa_nil))))), ?_⟩
    obtain ⟨dx, ho⟩ := hP.obj
    refine ⟨_, rfl, _, rfl, a, wl, sl, fp, p, rfl, hP, rfl, _, rfl, ?_⟩
    rw [eq_int]
    by_cases c : i = p.bare
    · rw [decide_eq_true c]
      rw [c, gain_bare] at k
      exact iteT k
    · rw [decide_eq_false c]
      rw [gain_eq p b i _ c] at k
      refine iteF ⟨_, rfl, _, rfl, _, rfl, a, CP, dx, _, _, rfl, ho, T.clP, T.nP3, pF_3 _ _ _ _, _, rfl, wl, _, _, _, rfl, rfl, SqL.of hP.winds, atI_nat (nV_get (getD_get hh)), a, wl, sl, fp, p, i, _, rfl, hP, by omega,
        _, rfl, _, rfl, _, rfl, a, wl, sl, fp, p, b, i, rfl, hP, _, _, rfl, rfl, _, _, rfl, ?_⟩
      have e : (if (Uw30.drive (p.sail i) (p.winds.getD h 0) : Int) - (cost p b i : Int) > 0 then (Uw30.drive (p.sail i) (p.winds.getD h 0) : Int) - (cost p b i : Int) else 0) = ((Uw30.drive (p.sail i) (p.winds.getD h 0) - cost p b i : Nat) : Int) := by
        split <;> omega
      rw [e]
      exact k
/-! ### is_change -/
theorem scIsCh : FnScope ["passage", "before", "sail"] ["passage", "before", "sail"] (defScope (top 15)) := ⟨rfl, rfl, rfl, by decide +kernel, rfl, by decide +kernel, by decide +kernel⟩
theorem ok_isCh {f : Addr} {fd : FuncData} (F : Fun K "is_change" "is_change" (top 15) f fd) (T : Txt K mg CS CP CB CD) (c1 : Cal P w K mg base "none_of" 1 ["passage"] (spNone CS CP)) :
    FnOk P w K mg base CX0 2 f fd ["passage", "before", "sail"] (spIsCh CS CP) := by
  refine F.ok scIsCh (fun vs H Q E h => ?_) (fun cdv A outer s H vs Q E hr h => ?_)
  · obtain ⟨a, wl, sl, fp, p, b, i, rfl, _⟩ := h
    rfl
  · obtain ⟨a, wl, sl, fp, p, b, i, rfl, hP, k⟩ := h
    refine ⟨_, pss_one (ps_ret (pe_and (pe_cmpR op_ne (pv 2) (pe_cal c1 hr (pa_cons (pv 0) pa_nil)) (nomark _)) (pe_one (pe_cmpR op_ne (pv 2) (pv 1) (nomark _))))), ?_⟩
    refine ⟨_, rfl, _, rfl, a, wl, sl, fp, p, rfl, hP, rfl, _, rfl, ?_⟩
    rw [eq_int]
    unfold isChB at k
    by_cases c : i = p.bare
    · rw [decide_eq_true c] at k ⊢
      exact iteF k
    · rw [decide_eq_false c] at k ⊢
      refine iteT ⟨_, rfl, _, rfl, rfl, ?_⟩
      rw [eq_int]
      exact k
/-! ### may_be -/
theorem scMay : FnScope ["passage", "hour", "sail"] ["passage", "hour", "sail"] (defScope (top 16)) := ⟨rfl, rfl, rfl, by decide +kernel, rfl, by decide +kernel, by decide +kernel⟩
theorem ok_may {f : Addr} {fd : FuncData} (F : Fun K "may_be" "may_be" (top 16) f fd) (T : Txt K mg CS CP CB CD) (c1 : Cal P w K mg base "none_of" 1 ["passage"] (spNone CS CP)) (c2 : Cal P w K mg base "does_stand" 1 ["passage", "sail", "wind"] (spStand CS CP)) :
    FnOk P w K mg base CX0 2 f fd ["passage", "hour", "sail"] (spMay CS CP) := by
  refine F.ok scMay (fun vs H Q E h => ?_) (fun cdv A outer s H vs Q E hr h => ?_)
  · obtain ⟨a, wl, sl, fp, p, h, i, rfl, _⟩ := h
    rfl
  · obtain ⟨a, wl, sl, fp, p, h, i, rfl, hP, hh, hi, k⟩ := h
    refine ⟨_, pss_one (ps_ret (pe_or (pe_cmpR op_eq (pv 2) (pe_cal c1 hr (pa_cons (pv 0) pa_nil)) (nomark _)) (pe_one (pe_cal c2 hr (pa_cons (pv 0) (pa_cons (pv 2) (pa_cons (pe_ix ix_list (pe_fld (pv 0) rfl) (pv 1) (fun _ _ => rfl)) pa_nil))))))), ?_⟩
    obtain ⟨dx, ho⟩ := hP.obj
    refine ⟨_, rfl, _, rfl, a, wl, sl, fp, p, rfl, hP, rfl, _, rfl, ?_⟩
    rw [eq_int]
    unfold mayBe at k
    by_cases c : i = p.bare
    · rw [decide_eq_true c] at k ⊢
      exact iteT k
    · rw [decide_eq_false c] at k ⊢
      exact iteF ⟨_, rfl, _, rfl, _, rfl, a, CP, dx, _, _, rfl, ho, T.clP, T.nP3, pF_3 _ _ _ _, _, rfl, wl, _, _, _, rfl, rfl, SqL.of hP.winds, atI_nat (nV_get (getD_get hh)), a, wl, sl, fp, p, i, _, rfl, hP, by omega, k⟩
end
end Sc
namespace Sc
open PySem PySem.Spec PyProof.Rows L2
section
variable {P : Program} {w : World} {K : PySem.W.Frag} {mg : Str → Option Value} {base : Heap} {CS CP CB CD : Addr}
/-! ### choices -/
theorem small6 {n : Nat} (h : n ≤ 1000) : n < sizeLine := small1000 h
theorem scCh : FnScope ["passage", "hour", "sail"] ["passage", "hour"] (defScope (top 17)) := ⟨rfl, rfl, rfl, by decide +kernel, rfl, by decide +kernel, by decide +kernel⟩
theorem ok_choices {f : Addr} {fd : FuncData} (F : Fun K "choices" "choices" (top 17) f fd) (T : Txt K mg CS CP CB CD) (c1 : Cal P w K mg base "none_of" 1 ["passage"] (spNone CS CP)) (c2 : Cal P w K mg base "may_be" 2 ["passage", "hour", "sail"] (spMay CS CP)) :
    FnOk P w K mg base CX0 3 f fd ["passage", "hour"] (spChoices CS CP) := by
  refine F.ok scCh (fun vs H Q E h => ?_) (fun cdv A outer s H vs Q E hr h => ?_)
  · obtain ⟨a, wl, sl, fp, p, h, rfl, _⟩ := h
    rfl
  · obtain ⟨a, wl, sl, fp, p, h, rfl, hP, hh, k⟩ := h
    refine ⟨_, pss_one (ps_ret (pe_lc (own := [("sail", 2)]) (g := gName 2) (by rfl) scCh.nd (pi_range1 rfl T.range (pa_cons (pe_op op_add (pe_cal c1 hr (pa_cons (pv 0) pa_nil)) pe_int) pa_nil))
      (blkOk_by (own := [("sail", 2)]) (N := ["passage", "hour", "sail"]) (sc := defScope (top 17)) (by decide +kernel)) (fun _ _ _ _ _ => pg_name (i := 2) scCh.nd rfl (Or.inl rfl))
      (fun _ _ _ _ _ => pts_one (pt_val (pe_cal c2 hr (pa_cons (pv 0) (pa_cons (pv 1) (pa_cons (pv 2) pa_nil)))))) (fun _ _ _ _ _ => pv 2))), ?_⟩
    have hb : p.bare ≤ 4 := hP.good.sails
    refine ⟨_, rfl, a, wl, sl, fp, p, rfl, hP, _, _, rfl, rfl, _, rfl, by omega, by omega, fun D hD => ?_⟩
    refine lc_range (lo := 0) (n := ((p.bare : Int) + 1).toNat) (fun i H' => H' = upd H D (.lst (nV ((List.range i).filter (mayBe p (p.winds.getD h 0)))))) rfl ?_ ?_
    · rintro i H' hi rfl
      have hi' : i ≤ p.bare := by omega
      have e : (0 : Int) + (i : Int) = i := Int.zero_add _
      rw [e]
      refine ⟨rfl, _, rfl, _, rfl, _, rfl, a, wl, sl, fp, p, h, i, rfl, hP.same (same_upd hD), hh, hi', _, rfl, ?_⟩
      have le : ((List.range i).filter (mayBe p (p.winds.getD h 0))).length ≤ 4 := Nat.le_trans (List.length_filter_le _ _) (by rw [List.length_range]; omega)
      cases c : mayBe p (p.winds.getD h 0) i with
      | true =>
        refine iteT ⟨_, rfl, _, upd_same, small1000 (by rw [nV_len]; omega), ?_⟩
        rw [upd_upd, List.range_succ, List.filter_append, List.filter_cons, if_pos c, nV_append]
        rfl
      | false =>
        refine iteF ?_
        rw [List.range_succ, List.filter_append, List.filter_cons, if_neg (by rw [c]; exact Bool.false_ne_true), List.filter_nil, List.append_nil]
    · rintro H' rfl
      have e : ((p.bare : Int) + 1).toNat = p.bare + 1 := by omega
      rw [e]
      exact k D hD
end
end Sc
namespace Sc
open PySem PySem.Spec PyProof.Rows L2
/-! ### what's best, in the heap -/
/-- at q stands x; both its objects were not there in H0 -/
def BestNew (CB : Addr) (H0 H : Hp) (q : Addr) (x : Uw30.Best) : Prop := ∃ dx l, H q = some (.ins CB dx (bF x l)) ∧ H l = some (.lst (nV x.plan)) ∧ H0 q = none ∧ H0 l = none
def BestAt (CB : Addr) (H : Hp) (q : Addr) (x : Uw30.Best) : Prop := ∃ dx l, H q = some (.ins CB dx (bF x l)) ∧ H l = some (.lst (nV x.plan))
theorem BestNew.at {CB : Addr} {H0 H : Hp} {q : Addr} {x : Uw30.Best} (h : BestNew CB H0 H q x) : BestAt CB H q x := by
  obtain ⟨dx, l, h1, h2, _⟩ := h
  exact ⟨dx, l, h1, h2⟩
theorem BestAt.same {CB : Addr} {H H' : Hp} {q : Addr} {x : Uw30.Best} (h : BestAt CB H q x) (s : Same H H') : BestAt CB H' q x := by
  obtain ⟨dx, l, h1, h2⟩ := h
  exact ⟨dx, l, s _ _ h1, s _ _ h2⟩
theorem BestNew.same {CB : Addr} {H0 H H' : Hp} {q : Addr} {x : Uw30.Best} (h : BestNew CB H0 H q x) (s : Same H H') : BestNew CB H0 H' q x := by
  obtain ⟨dx, l, h1, h2, h3⟩ := h
  exact ⟨dx, l, s _ _ h1, s _ _ h2, h3⟩
theorem BestNew.old {CB : Addr} {G H0 H : Hp} {q : Addr} {x : Uw30.Best} (h : BestNew CB H0 H q x) (s : Same G H0) : BestNew CB G H q x := by
  obtain ⟨dx, l, h1, h2, h3, h4⟩ := h
  exact ⟨dx, l, h1, h2, s.free h3, s.free h4⟩
theorem BestNew.upd {CB : Addr} {H0 H : Hp} {q D : Addr} {x : Uw30.Best} {o u : HO} (h : BestNew CB H0 H q x) (hD : H0 D = some o) : BestNew CB H0 (upd H D u) q x := by
  obtain ⟨dx, l, h1, h2, h3, h4⟩ := h
  exact ⟨dx, l, by rw [upd_ne (Ne.symm (ne_of_none hD h3))]; exact h1, by rw [upd_ne (Ne.symm (ne_of_none hD h4))]; exact h2, h3, h4⟩
structure AllBest (CB : Addr) (H0 H : Hp) (qs : List Addr) (xs : List Uw30.Best) : Prop where
  len : qs.length = xs.length
  all : ∀ (j : Nat) (x : Uw30.Best), xs[j]? = some x → ∃ q : Addr, qs[j]? = some q ∧ BestNew CB H0 H q x
theorem AllBest.nil {CB : Addr} {H0 H : Hp} : AllBest CB H0 H [] [] := ⟨rfl, fun j x h => by simp at h⟩
theorem AllBest.same {CB : Addr} {H0 H H' : Hp} {qs : List Addr} {xs : List Uw30.Best} (h : AllBest CB H0 H qs xs) (s : Same H H') : AllBest CB H0 H' qs xs := ⟨h.len, fun j x e => by
  obtain ⟨q, h1, h2⟩ := h.all j x e
  exact ⟨q, h1, h2.same s⟩⟩
theorem AllBest.old {CB : Addr} {G H0 H : Hp} {qs : List Addr} {xs : List Uw30.Best} (h : AllBest CB H0 H qs xs) (s : Same G H0) : AllBest CB G H qs xs := ⟨h.len, fun j x e => by
  obtain ⟨q, h1, h2⟩ := h.all j x e
  exact ⟨q, h1, h2.old s⟩⟩
theorem AllBest.upd {CB : Addr} {H0 H : Hp} {qs : List Addr} {xs : List Uw30.Best} {D : Addr} {o u : HO} (h : AllBest CB H0 H qs xs) (hD : H0 D = some o) : AllBest CB H0 (upd H D u) qs xs := ⟨h.len, fun j x e => by
  obtain ⟨q, h1, h2⟩ := h.all j x e
  exact ⟨q, h1, h2.upd hD⟩⟩
theorem AllBest.snoc {CB : Addr} {H0 H : Hp} {qs : List Addr} {xs : List Uw30.Best} {q : Addr} {x : Uw30.Best} (h : AllBest CB H0 H qs xs) (hq : BestNew CB H0 H q x) : AllBest CB H0 H (qs ++ [q]) (xs ++ [x]) := by
  refine ⟨by simp [h.len], fun j y e => ?_⟩
  by_cases c : j < xs.length
  · rw [List.getElem?_append_left c] at e
    obtain ⟨r, h1, h2⟩ := h.all j y e
    exact ⟨r, by rw [List.getElem?_append_left (by rw [h.len]; exact c)]; exact h1, h2⟩
  · rw [List.getElem?_append_right (by omega)] at e
    have hj : j - xs.length = 0 := by
      have := (List.getElem?_eq_some_iff.mp e).1
      simp at this
      omega
    rw [hj] at e
    have e' : x = y := Option.some.inj e
    subst e'
    exact ⟨q, by rw [List.getElem?_append_right (by rw [h.len]; omega), h.len, hj]; rfl, hq⟩
theorem ref_get {qs : List Addr} {j : Nat} {q : Addr} (h : qs[j]? = some q) : (qs.map V.ref)[j]? = some (V.ref q) := by
  rw [List.getElem?_map, h]
  rfl
theorem ref_snoc (qs : List Addr) (q : Addr) : qs.map V.ref ++ [V.ref q] = (qs ++ [q]).map V.ref := by
  rw [List.map_append]
  rfl
/-! ### the promises -/
section
variable (K : PySem.W.Frag) (CS CP CB : Addr)
def spInitB : Sp := fun vs H Q _ => ∃ (x dx l : Addr) (b : Uw30.Best), vs = [.ref x, .int b.first, .int b.second, .int b.many, .ref l] ∧ H x = some (.ins CB dx []) ∧ Q .non (upd H x (.ins CB dx (bF b l)))
def spBetter : Sp := fun vs H Q _ => ∃ (q r : Addr) (x y : Uw30.Best), vs = [.ref q, .ref r] ∧ BestAt CB H q x ∧ BestAt CB H r y ∧ Q (.bl (decide (better x y))) H
def spAsGood : Sp := fun vs H Q _ => ∃ (q r : Addr) (x y : Uw30.Best), vs = [.ref q, .ref r] ∧ BestAt CB H q x ∧ BestAt CB H r y ∧ Q (.bl (decide (asGood x y))) H
def spWith : Sp := fun vs H Q _ => ∃ (a wl sl : Addr) (fp : List Addr) (p : Uw30.Passage) (h b i : Nat) (r : Addr) (x : Uw30.Best), vs = [.ref a, .int h, .int b, .int i, .ref r] ∧ PassAt CS CP H a wl sl fp p ∧ h < p.winds.length ∧ i ≤ p.bare ∧ BestAt CB H r x ∧ x.plan.length ≤ 6 ∧
  ∀ H' q, Same H H' → BestNew CB H H' q (withC p (p.winds.getD h 0) b i x) → Q (.ref q) H'
def spBestOf : Sp := fun vs H Q _ => ∃ (l : Addr) (H0 : Hp) (qs : List Addr) (xs : List Uw30.Best), vs = [.ref l] ∧ H l = some (.lst (qs.map V.ref)) ∧ AllBest CB H0 H qs xs ∧ xs ≠ [] ∧ Same H0 H ∧
  ∀ H' q, Same H H' → BestNew CB H0 H' q (bestOf xs) → Q (.ref q) H'
def spBestPlan : Sp := fun vs H Q _ => ∃ (a wl sl : Addr) (fp : List Addr) (p : Uw30.Passage), vs = [.ref a] ∧ PassAt CS CP H a wl sl fp p ∧ ∀ H' q, Same H H' → BestAt CB H' q (bestFrom p p.winds p.bare) → Q (.ref q) H'
end
section
variable {P : Program} {w : World} {K : PySem.W.Frag} {mg : Str → Option Value} {base : Heap} {CS CP CB CD : Addr}
/-! ### Best.__init__ -/
theorem scInitB : FnScope ["self", "far", "changes", "many", "plan"] ["self", "far", "changes", "many", "plan"] (defScope sInitB) := ⟨rfl, rfl, rfl, by decide +kernel, rfl, by decide +kernel, by decide +kernel⟩
theorem ok_initB {f : Addr} {fd : FuncData} (F : Fun K "__init__" "Best.__init__" sInitB f fd) (T : Txt K mg CS CP CB CD) : FnOk P w K mg base CX0 1 f fd ["self", "far", "changes", "many", "plan"] (spInitB CB) := by
  refine F.ok scInitB (fun vs H Q E h => ?_) (fun cdv A outer s H vs Q E hr h => ?_)
  · obtain ⟨x, dx, l, b, rfl, _⟩ := h
    rfl
  · obtain ⟨x, dx, l, b, rfl, hx, k⟩ := h
    refine ⟨_, pss_cons (ps_fld (pv 0) (pv 1) rfl) (pss_cons (ps_fld (pv 0) (pv 2) rfl) (pss_cons (ps_fld (pv 0) (pv 3) rfl) (pss_one (ps_fld (pv 0) (pv 4) rfl)))), ?_⟩
    refine ⟨_, rfl, _, rfl, x, CB, dx, _, rfl, hx, T.clB, T.nB1, (by show 0 < 1000; decide), ?_⟩
    refine ⟨_, rfl, _, rfl, x, CB, dx, _, rfl, upd_same, T.clB, T.nB2, (by show 1 < 1000; decide), ?_⟩
    refine ⟨_, rfl, _, rfl, x, CB, dx, _, rfl, upd_same, T.clB, T.nB3, (by show 2 < 1000; decide), ?_⟩
    refine ⟨_, rfl, _, rfl, x, CB, dx, _, rfl, upd_same, T.clB, T.nB4, (by show 3 < 1000; decide), ?_⟩
    rw [upd_upd, upd_upd, upd_upd, bF_new]
    exact k
theorem made_same {H : Hp} {x dx : Addr} {o : HO} (nx : H x = none) (nd : H dx = none) : Same H (upd (upd H dx (.own x)) x o) := fun b u e => by
  rw [upd_ne (ne_of_none e nx), upd_ne (ne_of_none e nd)]
  exact e
/-! ### is_better, are_as_good -/
theorem lt_int (i j : Nat) : decide ((i : Int) < (j : Int)) = decide (i < j) := by
  by_cases h : i < j
  · rw [decide_eq_true h, decide_eq_true (by omega)]
  · rw [decide_eq_false h, decide_eq_false (by omega)]
theorem scBetter : FnScope ["one", "other"] ["one", "other"] (defScope (top 18)) := ⟨rfl, rfl, rfl, by decide +kernel, rfl, by decide +kernel, by decide +kernel⟩
theorem ok_better {f : Addr} {fd : FuncData} (F : Fun K "is_better" "is_better" (top 18) f fd) (T : Txt K mg CS CP CB CD) : FnOk P w K mg base CX0 1 f fd ["one", "other"] (spBetter CB) := by
  refine F.ok scBetter (fun vs H Q E h => ?_) (fun cdv A outer s H vs Q E hr h => ?_)
  · obtain ⟨q, r, x, y, rfl, _⟩ := h
    rfl
  · obtain ⟨q, r, x, y, rfl, ⟨d1, l1, h1, _⟩, ⟨d2, l2, h2, _⟩, k⟩ := h
    refine ⟨_, pss_one (ps_ret (pe_or (pe_cmpR op_gt (pe_fld (pv 0) rfl) (pe_fld (pv 1) rfl) (nomark _)) (pe_one (pe_and (pe_cmpR op_eq (pe_fld (pv 0) rfl) (pe_fld (pv 1) rfl) (nomark _)) (pe_one (pe_cmpR op_lt (pe_fld (pv 0) rfl) (pe_fld (pv 1) rfl) (nomark _))))))), ?_⟩
    refine ⟨_, rfl, q, CB, d1, _, _, rfl, h1, T.clB, T.nB1, bF_1 _ _, _, rfl, r, CB, d2, _, _, rfl, h2, T.clB, T.nB1, bF_1 _ _, _, _, rfl, rfl, _, rfl, ?_⟩
    rw [lt_int]
    by_cases c1 : y.first < x.first
    · rw [decide_eq_true c1]
      exact iteT (Qv k (congrArg V.bl (decide_eq_true (show better x y from .inl c1)).symm))
    · rw [decide_eq_false c1]
      refine iteF ⟨_, rfl, q, CB, d1, _, _, rfl, h1, T.clB, T.nB1, bF_1 _ _, _, rfl, r, CB, d2, _, _, rfl, h2, T.clB, T.nB1, bF_1 _ _, rfl, _, rfl, ?_⟩
      rw [eq_int]
      by_cases c2 : x.first = y.first
      · rw [decide_eq_true c2]
        refine iteT ⟨_, rfl, q, CB, d1, _, _, rfl, h1, T.clB, T.nB2, bF_2 _ _, _, rfl, r, CB, d2, _, _, rfl, h2, T.clB, T.nB2, bF_2 _ _, _, _, rfl, rfl, ?_⟩
        refine Qv k (congrArg V.bl ?_)
        rw [lt_int]
        by_cases c3 : x.second < y.second
        · rw [decide_eq_true c3]
          exact (decide_eq_true (show better x y from .inr ⟨c2, c3⟩)).symm
        · rw [decide_eq_false c3]
          exact (decide_eq_false (fun z : better x y => z.elim c1 fun z => c3 z.2)).symm
      · rw [decide_eq_false c2]
        refine iteF (Qv k (congrArg V.bl ?_))
        exact (decide_eq_false (fun z : better x y => z.elim c1 fun z => c2 z.1)).symm
theorem scAsGood : FnScope ["one", "other"] ["one", "other"] (defScope (top 19)) := ⟨rfl, rfl, rfl, by decide +kernel, rfl, by decide +kernel, by decide +kernel⟩
theorem ok_asGood {f : Addr} {fd : FuncData} (F : Fun K "are_as_good" "are_as_good" (top 19) f fd) (T : Txt K mg CS CP CB CD) : FnOk P w K mg base CX0 1 f fd ["one", "other"] (spAsGood CB) := by
  refine F.ok scAsGood (fun vs H Q E h => ?_) (fun cdv A outer s H vs Q E hr h => ?_)
  · obtain ⟨q, r, x, y, rfl, _⟩ := h
    rfl
  · obtain ⟨q, r, x, y, rfl, ⟨d1, l1, h1, _⟩, ⟨d2, l2, h2, _⟩, k⟩ := h
    refine ⟨_, pss_one (ps_ret (pe_and (pe_cmpR op_eq (pe_fld (pv 0) rfl) (pe_fld (pv 1) rfl) (nomark _)) (pe_one (pe_cmpR op_eq (pe_fld (pv 0) rfl) (pe_fld (pv 1) rfl) (nomark _))))), ?_⟩
    refine ⟨_, rfl, q, CB, d1, _, _, rfl, h1, T.clB, T.nB1, bF_1 _ _, _, rfl, r, CB, d2, _, _, rfl, h2, T.clB, T.nB1, bF_1 _ _, rfl, _, rfl, ?_⟩
    rw [eq_int]
    by_cases c1 : x.first = y.first
    · rw [decide_eq_true c1]
      refine iteT ⟨_, rfl, q, CB, d1, _, _, rfl, h1, T.clB, T.nB2, bF_2 _ _, _, rfl, r, CB, d2, _, _, rfl, h2, T.clB, T.nB2, bF_2 _ _, rfl, ?_⟩
      refine Qv k (congrArg V.bl ?_)
      rw [eq_int]
      by_cases c2 : x.second = y.second
      · rw [decide_eq_true c2]
        exact (decide_eq_true (show asGood x y from ⟨c1, c2⟩)).symm
      · rw [decide_eq_false c2]
        exact (decide_eq_false (fun z : asGood x y => c2 z.2)).symm
    · rw [decide_eq_false c1]
      refine iteF (Qv k (congrArg V.bl ?_))
      exact (decide_eq_false (fun z : asGood x y => c1 z.1)).symm
/-! ### with_choice -/
theorem scWith : FnScope ["passage", "hour", "before", "sail", "rest", "far", "changes"] ["passage", "hour", "before", "sail", "rest"] (defScope (top 20)) := ⟨rfl, rfl, rfl, by decide +kernel, rfl, by decide +kernel, by decide +kernel⟩
theorem ok_with {f : Addr} {fd : FuncData} (F : Fun K "with_choice" "with_choice" (top 20) f fd) (T : Txt K mg CS CP CB CD) (c1 : Cal P w K mg base "gain" 3 ["passage", "hour", "before", "sail"] (spGain CS CP)) (c2 : Cal P w K mg base "is_change" 2 ["passage", "before", "sail"] (spIsCh CS CP))
    (mB : Mak P w K mg base "Best" CB 1 ["self", "far", "changes", "many", "plan"] (spInitB CB)) : FnOk P w K mg base CX0 4 f fd ["passage", "hour", "before", "sail", "rest"] (spWith CS CP CB) := by
  refine F.ok scWith (fun vs H Q E h => ?_) (fun cdv A outer s H vs Q E hr h => ?_)
  · obtain ⟨a, wl, sl, fp, p, h, b, i, r, x, rfl, _⟩ := h
    rfl
  · obtain ⟨a, wl, sl, fp, p, h, b, i, r, x, rfl, hP, hh, hi, ⟨dr, lr, hr1, hr2⟩, hn, k⟩ := h
    refine ⟨_, pss_cons (ps_set (i := 5) scWith.nd rfl (Or.inl rfl) (pe_op op_add (pe_fld (pv 4) rfl) (pe_cal c1 hr (pa_cons (pv 0) (pa_cons (pv 1) (pa_cons (pv 2) (pa_cons (pv 3) pa_nil)))))))
      (pss_cons (ps_set (i := 6) scWith.nd rfl (Or.inl rfl) (pe_op op_add (pe_fld (pv 4) rfl) (pe_callTy call_int1 (by rfl) T.int (by decide +kernel) (pa_cons (pe_cal c2 hr (pa_cons (pv 0) (pa_cons (pv 2) (pa_cons (pv 3) pa_nil)))) pa_nil))))
      (pss_one (ps_ret (pe_mak mB hr (pa_cons (pv 5) (pa_cons (pv 6) (pa_cons (pe_fld (pv 4) rfl) (pa_cons (pe_op op_cat (pe_lst (pa_cons (pv 3) pa_nil)) (pe_fld (pv 4) rfl)) pa_nil)))))))), ?_⟩
    refine ⟨_, rfl, r, CB, dr, _, _, rfl, hr1, T.clB, T.nB1, bF_1 _ _, _, rfl, _, rfl, _, rfl, _, rfl, a, wl, sl, fp, p, h, b, i, rfl, hP, hh, hi, _, _, rfl, rfl, ?_⟩
    refine ⟨_, rfl, r, CB, dr, _, _, rfl, hr1, T.clB, T.nB2, bF_2 _ _, _, rfl, _, rfl, _, rfl, a, wl, sl, fp, p, b, i, rfl, hP, .inr ⟨_, rfl, _, _, rfl, rfl, ?_⟩⟩
    rw [isCh_b]
    refine ⟨_, rfl, _, rfl, _, rfl, r, CB, dr, _, _, rfl, hr1, T.clB, T.nB3, bF_3 _ _, _, rfl, (by show 1 ≤ sizeLine; decide), fun p1 n1 => ?_⟩
    have s1 := same_upd (o := .lst [V.int (i : Int)]) n1
    refine ⟨_, rfl, r, CB, dr, _, _, rfl, s1 _ _ hr1, T.clB, T.nB4, bF_4 _ _, p1, lr, _, _, rfl, rfl, upd_same, s1 _ _ hr2, ?_, fun p2 n2 => ?_⟩
    · rw [nV_len]
      show 1 + x.plan.length ≤ sizeLine
      have : (7 : Nat) ≤ sizeLine := by decide
      omega
    · have s2 := s1.trans (same_upd (o := .lst ([V.int (i : Int)] ++ nV x.plan)) n2)
      intro q dq nq nd ne
      refine ⟨q, dq, p2, withC p (p.winds.getD h 0) b i x, rfl, upd_same, rfl, ?_⟩
      rw [upd_upd]
      have s3 := made_same (o := .ins CB dq (bF (withC p (p.winds.getD h 0) b i x) p2)) nq nd
      exact k _ q (s2.trans s3) ⟨dq, p2, upd_same, s3 _ _ upd_same, s2.free nq, s1.free n2⟩
end
end Sc
namespace Sc
open PySem PySem.Spec PyProof.Rows L2
/-! ### plans are as long as there are hours -/
theorem pick_plan (f o : Uw30.Best) (n : Nat) (h1 : f.plan.length = n) (h2 : o.plan.length = n) : (pick f o).plan.length = n := by
  unfold pick
  split
  · exact h2
  · split
    · exact h1
    · exact h1
theorem bestOf_plan (n : Nat) : ∀ (xs : List Uw30.Best), xs ≠ [] → (∀ x ∈ xs, x.plan.length = n) → (bestOf xs).plan.length = n
  | [], h, _ => absurd rfl h
  | x :: l, _, h => by
    show (l.foldl pick x).plan.length = n
    have h0 : x.plan.length = n := h x List.mem_cons_self
    have h1 : ∀ y ∈ l, y.plan.length = n := fun y hy => h y (List.mem_cons_of_mem _ hy)
    clear h
    induction l generalizing x with
    | nil => exact h0
    | cons y l ih => exact ih (pick x y) (by simp) (pick_plan x y n h0 (h1 y List.mem_cons_self)) fun z hz => h1 z (List.mem_cons_of_mem _ hz)
theorem bestFrom_plan (p : Uw30.Passage) : ∀ (ws : List Nat) (b : Nat), (bestFrom p ws b).plan.length = ws.length
  | [], _ => rfl
  | w :: ws, b => by
    show (bestOf (someOf p w b (bestFrom p ws))).plan.length = ws.length + 1
    refine bestOf_plan _ _ (fun e => choices_ne p w (List.map_eq_nil_iff.mp e)) fun x hx => ?_
    obtain ⟨i, _, rfl⟩ := List.mem_map.mp hx
    show (i :: (bestFrom p ws i).plan).length = ws.length + 1
    rw [List.length_cons, bestFrom_plan p ws i]
def rowsOf (p : Uw30.Passage) (ws : List Nat) : List Uw30.Best := (List.range (p.bare + 1)).map (bestFrom p ws)
theorem rowsOf_get (p : Uw30.Passage) (ws : List Nat) {i : Nat} (h : i ≤ p.bare) : (rowsOf p ws)[i]? = some (bestFrom p ws i) := by
  unfold rowsOf
  rw [List.getElem?_map, List.getElem?_range (by omega)]
  rfl
theorem cut_tail (x : V) (xs : List V) : cutV (x :: xs) (some 1) none = xs := by
  unfold cutV
  have e : HT.sIx (x :: xs).length 0 (some (1 : Int)) = 1 := by
    have := HT.sIx_nat (x :: xs).length 0 1
    rw [List.length_cons] at this ⊢
    exact this.trans (by omega)
  rw [e, HT.sIx_none]
  show xs.take (xs.length + 1 - 1) = xs
  exact List.take_length
section
variable {P : Program} {w : World} {K : PySem.W.Frag} {mg : Str → Option Value} {base : Heap} {CS CP CB CD : Addr}
/-! ### best_of -/
theorem scBestOf : FnScope ["some", "found", "other"] ["some"] (defScope (top 21)) := ⟨rfl, rfl, rfl, by decide +kernel, rfl, by decide +kernel, by decide +kernel⟩
theorem ok_bestOf {f : Addr} {fd : FuncData} (F : Fun K "best_of" "best_of" (top 21) f fd) (T : Txt K mg CS CP CB CD) (c1 : Cal P w K mg base "is_better" 1 ["one", "other"] (spBetter CB)) (c2 : Cal P w K mg base "are_as_good" 1 ["one", "other"] (spAsGood CB))
    (mB : Mak P w K mg base "Best" CB 1 ["self", "far", "changes", "many", "plan"] (spInitB CB)) : FnOk P w K mg base CX0 3 f fd ["some"] (spBestOf CB) := by
  refine F.ok scBestOf (fun vs H Q E h => ?_) (fun cdv A outer s H vs Q E hr h => ?_)
  · obtain ⟨l, H0, qs, xs, rfl, _⟩ := h
    rfl
  · obtain ⟨l, H0, qs, xs, rfl, hl, hA, hne, s0, k⟩ := h
    refine ⟨_, pss_cons (ps_set (i := 1) scBestOf.nd rfl (Or.inl rfl) (pe_ix ix_list (pv 0) pe_int (fun _ _ => rfl)))
      (pss_cons (ps_for PassesOwn.never rfl (pi_list (pe_slice sl_list (pv 0) (po_some pe_int) po_none)) (pg_name (i := 2) scBestOf.nd rfl (Or.inl rfl))
        (pss_one (ps_if (pt_val (pe_cal c1 hr (pa_cons (pv 2) (pa_cons (pv 1) pa_nil)))) (pss_one (ps_set (i := 1) scBestOf.nd rfl (Or.inl rfl) (pv 2)))
          (pss_one (ps_if (pt_val (pe_cal c2 hr (pa_cons (pv 2) (pa_cons (pv 1) pa_nil)))) (pss_one (ps_set (i := 1) scBestOf.nd rfl (Or.inl rfl)
            (pe_mak mB hr (pa_cons (pe_fld (pv 1) rfl) (pa_cons (pe_fld (pv 1) rfl) (pa_cons (pe_op op_add (pe_fld (pv 1) rfl) (pe_fld (pv 2) rfl)) (pa_cons (pe_fld (pv 1) rfl) pa_nil))))))) pss_nil)))))
      (pss_one (ps_ret (pv 1)))), ?_⟩
    cases xs with
    | nil => exact absurd rfl hne
    | cons x0 xr =>
    cases qs with
    | nil => exact absurd hA.len (by simp)
    | cons q0 qr =>
    obtain ⟨q0', e0, B0⟩ := hA.all 0 x0 rfl
    have e0' : q0 = q0' := Option.some.inj e0
    subst e0'
    refine ⟨_, rfl, l, _, _, V.ref q0, rfl, rfl, SqL.of hl, at_of (j := 0) rfl rfl, ?_⟩
    refine ⟨_, rfl, _, rfl, l, _, rfl, SqL.of hl, fun L nL => ⟨L, rfl, ⟨_, SqL.of upd_same⟩, ?_⟩⟩
    have sL := same_upd (o := .lst (cutV ((q0 :: qr).map V.ref) (some 1) none)) nL
    have eL : (upd H L (.lst (cutV ((q0 :: qr).map V.ref) (some 1) none))) L = some (.lst (qr.map V.ref)) := by
      rw [upd_same]
      exact congrArg (fun z => some (HO.lst z)) (cut_tail _ _)
    refine for_list (K := K) (a := L) (xs := qr.map V.ref) (fun i σ H' => ∃ (q : Addr) (v : Option V), σ = [some (.ref l), some (.ref q), v] ∧ Same (upd H L (.lst (cutV ((q0 :: qr).map V.ref) (some 1) none))) H' ∧ BestNew CB H0 H' q ((xr.take i).foldl pick x0))
      ⟨q0, none, rfl, Same.refl _, B0.same sL⟩ (fun i σ H' _ ⟨_, _, _, s5, _⟩ => SqL.of (s5 _ _ eL)) ?_ ?_
    · rintro i y σ H' hi ⟨q, v, rfl, s5, B⟩
      have hlt : i < xr.length := by
        have h1 := (List.getElem?_eq_some_iff.mp hi).1
        have h2 := hA.len
        rw [List.length_map] at h1
        simp at h2
        omega
      obtain ⟨r, er, Br⟩ := hA.all (i + 1) xr[i] (by rw [List.getElem?_cons_succ]; exact List.getElem?_eq_getElem hlt)
      have er' : qr[i]? = some r := er
      have hy : y = V.ref r := Option.some.inj (hi.symm.trans (ref_get er'))
      subst hy
      have Br' := (Br.same sL).same s5
      have ex : (xr.take (i + 1)).foldl pick x0 = pick ((xr.take i).foldl pick x0) xr[i] := by
        rw [take_snoc (List.getElem?_eq_getElem hlt), List.foldl_append]
        rfl
      refine ⟨_, rfl, _, rfl, r, q, _, _, rfl, Br'.at, B.at, _, rfl, ?_⟩
      by_cases c : better xr[i] ((xr.take i).foldl pick x0)
      · rw [decide_eq_true c]
        refine iteT ⟨_, rfl, r, _, rfl, s5, ?_⟩
        rw [ex, pick, if_pos c]
        exact Br'
      · rw [decide_eq_false c]
        refine iteF ⟨_, rfl, _, rfl, r, q, _, _, rfl, Br'.at, B.at, _, rfl, ?_⟩
        by_cases c2 : asGood xr[i] ((xr.take i).foldl pick x0)
        · rw [decide_eq_true c2]
          obtain ⟨d1, l1, h1, h2, h3, h4⟩ := B
          obtain ⟨d2, l2, g1, g2, _⟩ := Br'
          refine iteT ⟨_, rfl, q, CB, d1, _, _, rfl, h1, T.clB, T.nB1, bF_1 _ _, _, rfl, q, CB, d1, _, _, rfl, h1, T.clB, T.nB2, bF_2 _ _, _, rfl, q, CB, d1, _, _, rfl, h1, T.clB, T.nB3, bF_3 _ _, _, rfl, r, CB, d2, _, _, rfl, g1, T.clB, T.nB3, bF_3 _ _, _, _, rfl, rfl,
            _, rfl, q, CB, d1, _, _, rfl, h1, T.clB, T.nB4, bF_4 _ _, ?_⟩
          intro z dz nz nd ne
          refine ⟨z, dz, l1, pick ((xr.take i).foldl pick x0) xr[i], ?_, upd_same, rfl, ?_⟩
          · rw [pick, if_neg c, if_pos c2]
            rfl
          rw [upd_upd]
          have s3 := made_same (o := .ins CB dz (bF (pick ((xr.take i).foldl pick x0) xr[i]) l1)) nz nd
          refine ⟨z, _, rfl, s5.trans s3, ?_⟩
          rw [ex]
          refine ⟨dz, l1, upd_same, ?_, s0.free (sL.free (s5.free nz)), h4⟩
          rw [s3 _ _ h2, pick, if_neg c, if_pos c2]
        · rw [decide_eq_false c2]
          refine iteF ⟨q, _, rfl, s5, ?_⟩
          rw [ex, pick, if_neg c, if_neg c2]
          exact B
    · rintro σ H' ⟨q, v, rfl, s5, B⟩
      refine ⟨_, rfl, k H' q (sL.trans s5) ?_⟩
      have e : (xr.take (qr.map V.ref).length) = xr := by
        rw [List.length_map]
        have := hA.len
        simp at this
        rw [this]
        exact List.take_length
      rw [e] at B
      exact B
end
end Sc
namespace Sc
open PySem PySem.Spec PyProof.Rows L2
section
variable {P : Program} {w : World} {K : PySem.W.Frag} {mg : Str → Option Value} {base : Heap} {CS CP CB CD : Addr}
theorem yes {σ : L2.St} {H : Hp} {Q : Bool → Hp → Prop} (h : Q true H) : tYes σ H Q := h
/-! ### best_plan -/
abbrev nBP : List Str := ["passage", "rows", "hour", "earlier", "before", "some", "sail"]
theorem scBP : FnScope nBP ["passage"] (defScope (top 22)) := ⟨rfl, rfl, rfl, by decide +kernel, rfl, by decide +kernel, by decide +kernel⟩
theorem drop_cons {ws : List Nat} {h : Nat} (hh : h < ws.length) : ws.drop h = ws.getD h 0 :: ws.drop (h + 1) := by
  rw [List.drop_eq_getElem_cons hh, List.getD_eq_getElem?_getD, List.getElem?_eq_getElem hh]
  rfl
theorem ok_bestPlan {f : Addr} {fd : FuncData} (F : Fun K "best_plan" "best_plan" (top 22) f fd) (T : Txt K mg CS CP CB CD) (c1 : Cal P w K mg base "none_of" 1 ["passage"] (spNone CS CP)) (c2 : Cal P w K mg base "choices" 3 ["passage", "hour"] (spChoices CS CP))
    (c3 : Cal P w K mg base "with_choice" 4 ["passage", "hour", "before", "sail", "rest"] (spWith CS CP CB)) (c4 : Cal P w K mg base "best_of" 3 ["some"] (spBestOf CB))
    (mB : Mak P w K mg base "Best" CB 1 ["self", "far", "changes", "many", "plan"] (spInitB CB)) : FnOk P w K mg base CX0 5 f fd ["passage"] (spBestPlan CS CP CB) := by
  refine F.ok scBP (fun vs H Q E h => ?_) (fun cdv A outer s H vs Q E hr h => ?_)
  · obtain ⟨a, wl, sl, fp, p, rfl, _⟩ := h
    rfl
  · obtain ⟨a, wl, sl, fp, p, rfl, hP, k⟩ := h
    refine ⟨_, pss_cons (ps_set (i := 1) scBP.nd rfl (Or.inr rfl) (pe_lc (own := [("before", 4)]) (g := gName 4) (by rfl) scBP.nd (pi_range1 rfl T.range (pa_cons (pe_op op_add (pe_cal c1 hr (pa_cons (pv 0) pa_nil)) pe_int) pa_nil))
        (blkOk_by (own := [("before", 4)]) (N := nBP) (sc := defScope (top 22)) (by decide +kernel)) (fun _ _ _ _ _ => pg_name (i := 4) scBP.nd rfl (Or.inl rfl)) (fun _ _ _ _ _ => pts_nil)
        (fun _ _ _ _ _ => pe_mak mB hr (pa_cons pe_int (pa_cons pe_int (pa_cons pe_int (pa_cons (pe_lst pa_nil) pa_nil)))))))
      (pss_cons (ps_for PassesOwn.never rfl (pi_range3 rfl T.range (pa_cons (pe_op op_sub (pe_callB call_len_seq (by rfl) T.len PySem.boot_len (pa_cons (pe_fld (pv 0) rfl) pa_nil)) pe_int) (pa_cons (pe_un un_neg pe_int) (pa_cons (pe_un un_neg pe_int) pa_nil)))) (pg_name (i := 2) scBP.nd rfl (Or.inr rfl))
        (pss_cons (ps_set (i := 3) scBP.nd rfl (Or.inl rfl) (pe_lst pa_nil))
        (pss_cons (ps_for PassesOwn.never rfl (pi_range1 rfl T.range (pa_cons (pe_op op_add (pe_cal c1 hr (pa_cons (pv 0) pa_nil)) pe_int) pa_nil)) (pg_name (i := 4) scBP.nd rfl (Or.inr rfl))
          (pss_cons (ps_setLc (i := 5) (own := [("sail", 6)]) (g := gName 6) (by rfl) scBP.nd rfl rfl (sw_true rfl rfl rfl (by decide +kernel)) (pi_list (pe_cal c2 hr (pa_cons (pv 0) (pa_cons (pv 2) pa_nil))))
            (blkOk_by (own := [("sail", 6)]) (N := nBP) (sc := defScope (top 22)) (by decide +kernel)) (fun _ _ _ _ _ => pg_name (i := 6) scBP.nd rfl (Or.inl rfl)) (fun _ _ _ _ _ => pts_nil)
            (fun _ _ _ _ _ => pe_cal c3 hr (pa_cons (pv 0) (pa_cons (pv 2) (pa_cons (pv 4) (pa_cons (pv 6) (pa_cons (pe_ix (r := rIxL K) ix_list (pv 1) (pv 6) (fun _ _ => rfl)) pa_nil)))))))
          (pss_one (ps_expr (pe_bm PySem.F.plainAttrs_list PySem.F.slot_list_append PySem.F.type_list_append mt_append (pv 3) (pa_cons (pe_cal c4 hr (pa_cons (pv 5) pa_nil)) pa_nil))))))
        (pss_one (ps_set (i := 1) scBP.nd rfl (Or.inr rfl) (pv 3))))))
      (pss_one (ps_ret (pe_ix ix_list (pv 1) (pe_cal c1 hr (pa_cons (pv 0) pa_nil)) (fun _ _ => rfl))))), ?_⟩
    have hb : p.bare ≤ 4 := hP.good.sails
    have hw : p.winds.length ≤ 6 := hP.good.hours
    have n1 : ((p.bare : Int) + 1).toNat = p.bare + 1 := by omega
    -- rows = [Best(0, 0, 1, []) for before in range(none_of(passage) + 1)]
    refine ⟨_, rfl, a, wl, sl, fp, p, rfl, hP, _, _, rfl, rfl, _, rfl, by omega, by omega, fun D hD => ?_⟩
    refine lc_range (lo := 0) (n := ((p.bare : Int) + 1).toNat) (fun i H' => ∃ qs : List Addr, H' D = some (.lst (qs.map V.ref)) ∧ Same H H' ∧ AllBest CB (upd H D (.lst [])) H' qs ((List.range i).map (bestFrom p [])))
      ⟨[], upd_same, same_upd hD, AllBest.nil⟩ ?_ ?_
    · rintro i H' hi ⟨qs, h1, h2, h3⟩
      refine ⟨rfl, yes (iteT ⟨Nat.zero_le _, fun l nl => ?_⟩)⟩
      intro q dq nq nd ne
      refine ⟨q, dq, l, ⟨0, 0, 1, []⟩, rfl, upd_same, rfl, ?_⟩
      rw [upd_upd]
      have s1 := same_upd (o := .lst []) nl
      have s2 := made_same (o := .ins CB dq (bF ⟨0, 0, 1, []⟩ l)) nq nd
      have s3 := s1.trans s2
      have sD : Same (upd H D (.lst [])) (upd H' D (.lst [])) := fun b o e => by
        by_cases c : b = D
        · subst c; rw [upd_same] at e ⊢; exact e
        · rw [upd_ne c] at e ⊢; exact h2 _ _ e
      have fq : ∀ b, H' b = none → (upd H D (.lst [])) b = none := fun b e => by
        have c : b ≠ D := Ne.symm (ne_of_none h1 e)
        rw [upd_ne c]
        exact h2.free e
      refine ⟨_, s3 _ _ h1, small1000 ?_, qs ++ [q], ?_, ?_, ?_⟩
      · rw [List.length_map, h3.len, List.length_map, List.length_range]
        omega
      · rw [upd_same, ref_snoc]
      · exact fun b o e => by
          have c : b ≠ D := ne_of_none e hD
          rw [upd_ne c]
          exact s3 _ _ (h2 _ _ e)
      · rw [List.range_succ, List.map_append]
        exact ((h3.same s3).snoc ⟨dq, l, upd_same, s2 _ _ upd_same, fq _ (s1.free nq), fq _ nl⟩).upd upd_same
    · rintro H1 ⟨qs1, g1, g2, g3⟩
      rw [n1] at g3
      have hP1 := hP.same g2
      obtain ⟨dx, ho⟩ := hP1.obj
      -- for hour in range(len(passage.winds) - 1, -1, -1)
      refine ⟨_, rfl, a, CP, dx, _, _, rfl, ho, T.clP, T.nP3, pF_3 _ _ _ _, wl, _, rfl, .inl (SqL.of hP1.winds), _, _, rfl, rfl, _, rfl, _, rfl, _, _, _, _, rfl, RgC.neg (by rw [nV_len]; omega) (by rw [nV_len]; omega) (by decide) (by decide), ?_⟩
      rw [nV_len]
      have n2 : ((p.winds.length : Int) - 1 - -1).toNat = p.winds.length := by omega
      rw [n2]
      refine for_rangeC (lo := (p.winds.length : Int) - 1) (c := -1) (n := p.winds.length) (fun i σ H' => ∃ (v2 v3 v4 v5 : Option V) (R : Addr) (qs : List Addr), σ = [some (.ref a), some (.ref R), v2, v3, v4, v5, none] ∧ Same H H' ∧ H' R = some (.lst (qs.map V.ref)) ∧
          AllBest CB H H' qs (rowsOf p (p.winds.drop (p.winds.length - i)))) ?_ ?_ ?_
      · refine ⟨none, none, none, none, D, qs1, rfl, g2, g1, ?_⟩
        rw [Nat.sub_zero, List.drop_length]
        exact g3.old (same_upd hD)
      · rintro i σ H2 hi ⟨v2, v3, v4, v5, R, qs, rfl, s2, hR, hA⟩
        obtain ⟨h, hhe⟩ : ∃ h, h + 1 = p.winds.length - i := ⟨p.winds.length - i - 1, by omega⟩
        have eh : (p.winds.length : Int) - 1 + (i : Nat) * (-1) = (h : Int) := by omega
        have hh : h < p.winds.length := by omega
        rw [eh]
        rw [← hhe] at hA
        have hP2 := hP.same s2
        -- earlier = []
        refine ⟨Nat.zero_le _, fun e ne => ?_⟩
        have se := same_upd (o := .lst []) ne
        refine ⟨_, rfl, a, wl, sl, fp, p, rfl, hP2.same se, _, _, rfl, rfl, _, rfl, by omega, by omega, ?_⟩
        refine for_range (lo := 0) (n := ((p.bare : Int) + 1).toNat) (fun j σ H' => ∃ (v4 v5 : Option V) (es : List Addr), σ = [some (.ref a), some (.ref R), some (.int h), some (.ref e), v4, v5, none] ∧ Same H2 H' ∧ H' e = some (.lst (es.map V.ref)) ∧
            AllBest CB (upd H2 e (.lst [])) H' es ((List.range j).map (bestFrom p (p.winds.drop h)))) ⟨v4, v5, [], rfl, se, upd_same, AllBest.nil⟩ ?_ ?_
        · rintro j σ H3 hj ⟨v4, v5, es, rfl, s3, he, hE⟩
          have ez : (0 : Int) + (j : Int) = j := Int.zero_add _
          rw [ez]
          have hP3 := hP2.same s3
          -- some = [with_choice(..) for sail in choices(passage, hour)]
          refine ⟨_, rfl, _, rfl, a, wl, sl, fp, p, h, rfl, hP3, hh, fun L nL => ⟨L, rfl, ⟨_, SqL.of upd_same⟩, fun G nG => ?_⟩⟩
          have sL := same_upd (o := .lst (nV (choices p (p.winds.getD h 0)))) nL
          have sLG : Same (upd H3 L (.lst (nV (choices p (p.winds.getD h 0))))) (upd (upd H3 L (.lst (nV (choices p (p.winds.getD h 0))))) G (.lst [])) := same_upd nG
          refine lc_list (K := K) (a := L) (xs := nV (choices p (p.winds.getD h 0))) (fun m H' => ∃ cs : List Addr, H' G = some (.lst (cs.map V.ref)) ∧ Same (upd H3 L (.lst (nV (choices p (p.winds.getD h 0))))) H' ∧
              AllBest CB (upd (upd H3 L (.lst (nV (choices p (p.winds.getD h 0))))) G (.lst [])) H' cs (((choices p (p.winds.getD h 0)).take m).map fun i => withC p (p.winds.getD h 0) j i (bestFrom p (p.winds.drop (h + 1)) i)))
            ⟨[], upd_same, sLG, AllBest.nil⟩ (fun m H' _ ⟨_, _, s5, _⟩ => SqL.of (s5 _ _ upd_same)) ?_ ?_
          · rintro m y H4 hy ⟨cs, hG, s4, hC⟩
            obtain ⟨i, hi, rfl⟩ := nV_of hy
            have hib := choices_le (List.mem_of_getElem? hi)
            have s34 := sL.trans s4
            have s24 := s3.trans s34
            obtain ⟨q, hq, Bq⟩ := hA.all i _ (rowsOf_get p _ hib.1)
            have Bq4 := Bq.same s24
            refine ⟨rfl, yes (iteT ⟨_, rfl, _, rfl, _, rfl, _, rfl, _, rfl, _, rfl, R, _, _, _, rfl, rfl, SqL.of (s24 _ _ hR), atI_nat (ref_get hq), a, wl, sl, fp, p, h, j, i, q, _, rfl, hP3.same s34, hh, hib.1, Bq4.at, ?_, fun H5 z s5 Bz => ?_⟩)⟩
            · rw [bestFrom_plan, List.length_drop]
              omega
            · have sG : Same (upd (upd H3 L (.lst (nV (choices p (p.winds.getD h 0))))) G (.lst [])) (upd H4 G (.lst [])) := fun b o ee => by
                by_cases c : b = G
                · subst c; rw [upd_same] at ee ⊢; exact ee
                · rw [upd_ne c] at ee ⊢; exact s4 _ _ ee
              have fG : ∀ b, H4 b = none → (upd (upd H3 L (.lst (nV (choices p (p.winds.getD h 0))))) G (.lst [])) b = none := fun b ee => by
                have c : b ≠ G := Ne.symm (ne_of_none hG ee)
                rw [upd_ne c]
                exact s4.free ee
              refine ⟨_, s5 _ _ hG, small1000 ?_, cs ++ [z], ?_, ?_, ?_⟩
              · rw [List.length_map, hC.len, List.length_map, List.length_take]
                have := choices_len p (p.winds.getD h 0)
                omega
              · rw [upd_same, ref_snoc]
              · exact fun b o ee => by
                  have c : b ≠ G := ne_of_none ee nG
                  rw [upd_ne c]
                  exact s5 _ _ (s4 _ _ ee)
              · rw [take_snoc hi, List.map_append]
                obtain ⟨dz, lz, z1, z2, z3, z4⟩ := Bz
                exact ((hC.same s5).snoc ⟨dz, lz, z1, z2, fG _ z3, fG _ z4⟩).upd upd_same
          · rintro H4 ⟨cs, hG, s4, hC⟩
            rw [nV_len, List.take_length] at hC
            -- earlier.append(best_of(some))
            have s34 := sL.trans s4
            have ne2 : e ≠ G := ne_of_none (sL _ _ he) nG
            refine ⟨_, rfl, .inl ⟨rfl, _, SqL.of (s34 _ _ he)⟩, _, rfl, G, upd H3 L (.lst (nV (choices p (p.winds.getD h 0)))), cs, _, rfl, hG, hC.old sLG, ?_, s4, fun H5 z s5 Bz => ?_⟩
            · intro e0
              exact choices_ne p _ (List.map_eq_nil_iff.mp e0)
            · have s35 := s34.trans s5
              refine ⟨e, _, _, rfl, rfl, s35 _ _ he, small1000 ?_, ?_⟩
              · rw [List.length_map, hE.len, List.length_map, List.length_range]
                omega
              · refine ⟨_, _, es ++ [z], rfl, ?_, ?_, ?_⟩
                · exact fun b o ee => by
                    have c : b ≠ e := ne_of_none ee ne
                    rw [upd_ne c]
                    exact s35 _ _ (s3 _ _ ee)
                · rw [upd_same, ref_snoc]
                · rw [List.range_succ, List.map_append]
                  have eb : bestOf ((choices p (p.winds.getD h 0)).map fun i => withC p (p.winds.getD h 0) j i (bestFrom p (p.winds.drop (h + 1)) i)) = bestFrom p (p.winds.drop h) j := by
                    rw [drop_cons hh]
                    rfl
                  rw [eb] at Bz
                  have fe : ∀ b, (upd H3 L (.lst (nV (choices p (p.winds.getD h 0))))) b = none → (upd H2 e (.lst [])) b = none := fun b ee => by
                    have c : b ≠ e := Ne.symm (ne_of_none (sL _ _ he) ee)
                    rw [upd_ne c]
                    exact s3.free (sL.free ee)
                  obtain ⟨dz, lz, z1, z2, z3, z4⟩ := Bz
                  exact ((hE.same s35).snoc ⟨dz, lz, z1, z2, fe _ z3, fe _ z4⟩).upd upd_same
        · rintro σ H3 ⟨v4, v5, es, rfl, s3, he, hE⟩
          rw [n1] at hE
          -- rows = earlier
          refine ⟨_, rfl, _, _, _, _, e, es, rfl, s2.trans s3, he, ?_⟩
          have ei : p.winds.length - (i + 1) = h := by omega
          rw [ei]
          exact hE.old (s2.trans se)
      · rintro σ H2 ⟨v2, v3, v4, v5, R, qs, rfl, s2, hR, hA⟩
        rw [Nat.sub_self, List.drop_zero] at hA
        obtain ⟨q, hq, Bq⟩ := hA.all p.bare _ (rowsOf_get p _ (Nat.le_refl _))
        exact ⟨_, rfl, _, rfl, a, wl, sl, fp, p, rfl, hP.same s2, R, _, _, _, rfl, rfl, SqL.of hR, atI_nat (ref_get hq), k H2 q s2 Bq.at⟩
end
end Sc
namespace Sc
open PySem PySem.Spec PyProof.Rows L2
section
variable (K : PySem.W.Frag) (CS CP CB : Addr)
def spGains : Sp := fun vs H Q _ => ∃ (a wl sl : Addr) (fp : List Addr) (p : Uw30.Passage) (l : Addr) (plan : List Nat), vs = [.ref a, .ref l] ∧ PassAt CS CP H a wl sl fp p ∧ SqL K H l (nV plan) ∧ plan.length = p.winds.length ∧ (∀ i ∈ plan, i ≤ p.bare) ∧
  ∀ D, H D = none → Q (.ref D) (upd H D (.lst (nV (p.gains p.bare p.winds plan))))
def spChanges : Sp := fun vs H Q _ => ∃ (a wl sl : Addr) (fp : List Addr) (p : Uw30.Passage) (l : Addr) (plan : List Nat), vs = [.ref a, .ref l] ∧ PassAt CS CP H a wl sl fp p ∧ SqL K H l (nV plan) ∧ Q (.int (p.changes p.bare plan : Nat)) H
def spPlainC : Sp := fun vs H Q _ => ∃ (a wl sl : Addr) (fp : List Addr) (p : Uw30.Passage) (h b : Nat), vs = [.ref a, .int h, .int b] ∧ PassAt CS CP H a wl sl fp p ∧ h < p.winds.length ∧ ∀ H', Same H H' → Q (.int (plainC p b (p.winds.getD h 0) : Nat)) H'
def spPlain : Sp := fun vs H Q _ => ∃ (a wl sl : Addr) (fp : List Addr) (p : Uw30.Passage), vs = [.ref a] ∧ PassAt CS CP H a wl sl fp p ∧ ∀ H' D, Same H H' → H D = none → H' D = some (.lst (nV p.plain)) → Q (.ref D) H'
def spIsPlan : Sp := fun vs H Q _ => ∃ (a wl sl : Addr) (fp : List Addr) (p : Uw30.Passage) (l : Addr) (plan : List Nat), vs = [.ref a, .ref l] ∧ PassAt CS CP H a wl sl fp p ∧ SqL K H l (nV plan) ∧ plan.length ≤ 1000 ∧ ∀ H', Same H H' → Q (.bl (p.told plan)) H'
def wrongOf (p : Uw30.Passage) (plan : List Nat) : Int := match p.torn plan with
  | some h => (h : Int)
  | none => -1
def spWrong : Sp := fun vs H Q _ => ∃ (a wl sl : Addr) (fp : List Addr) (p : Uw30.Passage) (l : Addr) (plan : List Nat), vs = [.ref a, .ref l] ∧ PassAt CS CP H a wl sl fp p ∧ SqL K H l (nV plan) ∧ plan.length = p.winds.length ∧ (∀ i ∈ plan, i ≤ p.bare) ∧ Q (.int (wrongOf p plan)) H
end
theorem getD_mem {l : List Nat} {i : Nat} (h : i < l.length) : l.getD i 0 ∈ l := List.mem_of_getElem? (getD_get h)
theorem torn_at (p : Uw30.Passage) (l : List Nat) (i : Nat) (h1 : i < l.length) (h2 : mayBe p (p.winds.getD i 0) (l.getD i 0) = false) (h3 : ∀ j, j < i → mayBe p (p.winds.getD j 0) (l.getD j 0) = true) : p.torn l = some i := by
  unfold Uw30.Passage.torn
  have e : ∀ h, (l.getD h 0 != p.bare && !Uw30.stands (p.sail (l.getD h 0)) (p.winds.getD h 0)) = !mayBe p (p.winds.getD h 0) (l.getD h 0) := fun h => by
    unfold mayBe
    generalize l.getD h 0 = x
    cases Uw30.stands (p.sail x) (p.winds.getD h 0) <;> by_cases c : x = p.bare <;> simp [c]
  rw [List.find?_range_eq_some]
  refine ⟨?_, List.mem_range.mpr h1, fun j hj => ?_⟩
  · rw [e, h2]
    rfl
  · rw [e, h3 j hj]
    rfl
theorem told_iff (p : Uw30.Passage) (l : List Nat) : p.told l = true ↔ l.length = p.winds.length ∧ ∀ i ∈ l, i ≤ p.bare := by
  unfold Uw30.Passage.told
  simp
theorem shaped_ints (ns : List Int) : SeqAt.shaped (.list (ns.map PyData.int)) = true := by
  have h1 : PyData.canLayAll0 (ns.map PyData.int) = true := by
    induction ns with
    | nil => rfl
    | cons n ns ih =>
      show (PyData.canLay0 (.int n) && PyData.canLayAll0 (ns.map PyData.int)) = true
      rw [ih]
      rfl
  have h2 : PyData.depthAll (ns.map PyData.int) = 0 := by
    clear h1
    induction ns with
    | nil => rfl
    | cons n ns ih =>
      show max (PyData.depth (.int n)) (PyData.depthAll (ns.map PyData.int)) = 0
      rw [ih]
      rfl
  show (PyData.canLayAll0 (ns.map PyData.int) && decide (PyData.depthAll (ns.map PyData.int) + 1 ≤ 64)) = true
  rw [h1, h2]
  rfl
theorem dp_ints {K : PySem.W.Frag} {H : Hp} : ∀ ns : List Int, DpAll K H (ns.map V.int) (ns.map PyData.int)
  | [] => .nil
  | n :: r => .cons (.int n) (dp_ints r)
section
variable {P : Program} {w : World} {K : PySem.W.Frag} {mg : Str → Option Value} {base : Heap} {CS CP CB CD : Addr}
/-! ### gains_of -/
theorem scGains : FnScope ["passage", "plan", "found", "before", "hour"] ["passage", "plan"] (defScope (top 23)) := ⟨rfl, rfl, rfl, by decide +kernel, rfl, by decide +kernel, by decide +kernel⟩
theorem ok_gains {f : Addr} {fd : FuncData} (F : Fun K "gains_of" "gains_of" (top 23) f fd) (T : Txt K mg CS CP CB CD) (c1 : Cal P w K mg base "none_of" 1 ["passage"] (spNone CS CP)) (c2 : Cal P w K mg base "gain" 3 ["passage", "hour", "before", "sail"] (spGain CS CP)) :
    FnOk P w K mg base CX0 4 f fd ["passage", "plan"] (spGains K CS CP) := by
  refine F.ok scGains (fun vs H Q E h => ?_) (fun cdv A outer s H vs Q E hr h => ?_)
  · obtain ⟨a, wl, sl, fp, p, l, plan, rfl, _⟩ := h
    rfl
  · obtain ⟨a, wl, sl, fp, p, l, plan, rfl, hP, hl, hn, hle, k⟩ := h
    refine ⟨_, pss_cons (ps_set (i := 2) scGains.nd rfl (Or.inl rfl) (pe_lst pa_nil))
      (pss_cons (ps_set (i := 3) scGains.nd rfl (Or.inl rfl) (pe_cal c1 hr (pa_cons (pv 0) pa_nil)))
      (pss_cons (ps_for PassesOwn.never rfl (pi_range1 rfl T.range (pa_cons (pe_callB call_len_seq (by rfl) T.len PySem.boot_len (pa_cons (pv 1) pa_nil)) pa_nil)) (pg_name (i := 4) scGains.nd rfl (Or.inl rfl))
        (pss_cons (ps_expr (pe_bm PySem.F.plainAttrs_list PySem.F.slot_list_append PySem.F.type_list_append mt_append (pv 2) (pa_cons (pe_cal c2 hr (pa_cons (pv 0) (pa_cons (pv 4) (pa_cons (pv 3) (pa_cons (pe_ix ix_list (pv 1) (pv 4) (fun _ _ => rfl)) pa_nil))))) pa_nil)))
        (pss_one (ps_set (i := 3) scGains.nd rfl (Or.inl rfl) (pe_ix ix_list (pv 1) (pv 4) (fun _ _ => rfl))))))
      (pss_one (ps_ret (pv 2))))), ?_⟩
    have hw := hP.good.hours
    refine ⟨Nat.zero_le _, fun D hD => ?_⟩
    have sD : ∀ o, Same H (upd H D o) := fun o => same_upd hD
    refine ⟨_, rfl, a, wl, sl, fp, p, rfl, hP.same (sD _), _, rfl, l, _, rfl, .inl ((sD _).seq hl), _, rfl, by rw [nV_len]; omega, by rw [nV_len]; omega, ?_⟩
    have n1 : ((nV plan).length : Int).toNat = plan.length := by rw [nV_len]; omega
    rw [n1]
    refine for_range (lo := 0) (n := plan.length) (fun i σ H' => ∃ v : Option V, σ = [some (.ref a), some (.ref l), some (.ref D), some (.int (ahead p.bare plan i)), v] ∧ H' = upd H D (.lst (nV ((p.gains p.bare p.winds plan).take i)))) ⟨none, rfl, rfl⟩ ?_ ?_
    · rintro i σ H' hi ⟨v, rfl, rfl⟩
      have e : (0 : Int) + (i : Int) = i := Int.zero_add _
      rw [e]
      have hg := getD_get hi
      refine ⟨_, rfl, .inl ⟨rfl, _, SqL.of upd_same⟩, _, rfl, _, rfl, _, rfl, _, rfl, _, rfl, l, _, _, _, rfl, rfl, (sD _).seq hl, atI_nat (nV_get hg), a, wl, sl, fp, p, i, _, _, rfl, hP.same (sD _), by omega, hle _ (getD_mem hi),
        D, _, _, rfl, rfl, upd_same, small1000 ?_, ?_⟩
      · rw [nV_len, List.length_take]
        omega
      · rw [upd_upd]
        refine ⟨_, rfl, _, rfl, l, _, _, _, rfl, rfl, (sD _).seq hl, atI_nat (nV_get hg), _, rfl, ?_⟩
        rw [take_snoc (gains_get p p.winds plan p.bare i hn hi), nV_append]
        rfl
    · rintro σ H' ⟨v, rfl, rfl⟩
      refine ⟨_, rfl, ?_⟩
      have e : (p.gains p.bare p.winds plan).take plan.length = p.gains p.bare p.winds plan := by
        rw [← gains_len p p.winds plan p.bare hn]
        exact List.take_length
      rw [e]
      exact k D hD
/-! ### changes_of -/
theorem scChanges : FnScope ["passage", "plan", "found", "before", "sail"] ["passage", "plan"] (defScope (top 24)) := ⟨rfl, rfl, rfl, by decide +kernel, rfl, by decide +kernel, by decide +kernel⟩
theorem ok_changes {f : Addr} {fd : FuncData} (F : Fun K "changes_of" "changes_of" (top 24) f fd) (T : Txt K mg CS CP CB CD) (c1 : Cal P w K mg base "none_of" 1 ["passage"] (spNone CS CP)) (c2 : Cal P w K mg base "is_change" 2 ["passage", "before", "sail"] (spIsCh CS CP)) :
    FnOk P w K mg base CX0 3 f fd ["passage", "plan"] (spChanges K CS CP) := by
  refine F.ok scChanges (fun vs H Q E h => ?_) (fun cdv A outer s H vs Q E hr h => ?_)
  · obtain ⟨a, wl, sl, fp, p, l, plan, rfl, _⟩ := h
    rfl
  · obtain ⟨a, wl, sl, fp, p, l, plan, rfl, hP, hl, k⟩ := h
    refine ⟨_, pss_cons (ps_set (i := 2) scChanges.nd rfl (Or.inl rfl) pe_int)
      (pss_cons (ps_set (i := 3) scChanges.nd rfl (Or.inl rfl) (pe_cal c1 hr (pa_cons (pv 0) pa_nil)))
      (pss_cons (ps_for PassesOwn.never rfl (pi_list (pv 1)) (pg_name (i := 4) scChanges.nd rfl (Or.inl rfl))
        (pss_cons (ps_set (i := 2) scChanges.nd rfl (Or.inl rfl) (pe_op op_add (pv 2) (pe_callTy call_int1 (by rfl) T.int (by decide +kernel) (pa_cons (pe_cal c2 hr (pa_cons (pv 0) (pa_cons (pv 3) (pa_cons (pv 4) pa_nil)))) pa_nil))))
        (pss_one (ps_set (i := 3) scChanges.nd rfl (Or.inl rfl) (pv 4)))))
      (pss_one (ps_ret (pv 2))))), ?_⟩
    refine ⟨_, rfl, a, wl, sl, fp, p, rfl, hP, _, rfl, l, rfl, ⟨_, hl⟩, ?_⟩
    refine for_list (K := K) (a := l) (xs := nV plan) (fun i σ H' => ∃ v : Option V, σ = [some (.ref a), some (.ref l), some (.int (p.changes p.bare (plan.take i) : Nat)), some (.int (ahead p.bare plan i)), v] ∧ H' = H) ⟨none, rfl, rfl⟩
      (fun i σ H' _ ⟨_, _, e⟩ => by rw [e]; exact hl) ?_ ?_
    · rintro i y σ H' hy ⟨v, rfl, rfl⟩
      obtain ⟨n, hn, rfl⟩ := nV_of hy
      have hi : i < plan.length := (List.getElem?_eq_some_iff.mp hn).1
      have en : plan.getD i 0 = n := by rw [List.getD_eq_getElem?_getD, hn]; rfl
      refine ⟨_, rfl, _, rfl, _, rfl, _, rfl, a, wl, sl, fp, p, _, _, rfl, hP, .inr ⟨_, rfl, _, _, rfl, rfl, ?_⟩⟩
      refine ⟨_, rfl, some (.int n), ?_, rfl⟩
      rw [changes_take p plan p.bare i hi, isCh_b, ahead_succ, en, Int.natCast_add]
      rfl
    · rintro σ H' ⟨v, rfl, rfl⟩
      refine ⟨_, rfl, ?_⟩
      rw [nV_len, List.take_length]
      exact k
/-! ### plain_choice -/
theorem scPlainC : FnScope ["passage", "hour", "before", "found", "most", "sail"] ["passage", "hour", "before"] (defScope (top 25)) := ⟨rfl, rfl, rfl, by decide +kernel, rfl, by decide +kernel, by decide +kernel⟩
theorem ok_plainC {f : Addr} {fd : FuncData} (F : Fun K "plain_choice" "plain_choice" (top 25) f fd) (T : Txt K mg CS CP CB CD) (c1 : Cal P w K mg base "none_of" 1 ["passage"] (spNone CS CP)) (c2 : Cal P w K mg base "gain" 3 ["passage", "hour", "before", "sail"] (spGain CS CP)) (c3 : Cal P w K mg base "choices" 3 ["passage", "hour"] (spChoices CS CP)) :
    FnOk P w K mg base CX0 4 f fd ["passage", "hour", "before"] (spPlainC CS CP) := by
  refine F.ok scPlainC (fun vs H Q E h => ?_) (fun cdv A outer s H vs Q E hr h => ?_)
  · obtain ⟨a, wl, sl, fp, p, h, b, rfl, _⟩ := h
    rfl
  · obtain ⟨a, wl, sl, fp, p, h, b, rfl, hP, hh, k⟩ := h
    refine ⟨_, pss_cons (ps_set (i := 3) scPlainC.nd rfl (Or.inl rfl) (pe_cal c1 hr (pa_cons (pv 0) pa_nil)))
      (pss_cons (ps_set (i := 4) scPlainC.nd rfl (Or.inl rfl) pe_int)
      (pss_cons (ps_for PassesOwn.never rfl (pi_list (pe_cal c3 hr (pa_cons (pv 0) (pa_cons (pv 1) pa_nil)))) (pg_name (i := 5) scPlainC.nd rfl (Or.inl rfl))
        (pss_one (ps_if (pt_cmpR op_gt (pe_cal c2 hr (pa_cons (pv 0) (pa_cons (pv 1) (pa_cons (pv 2) (pa_cons (pv 5) pa_nil))))) (pv 4) (nomark _))
          (pss_cons (ps_set (i := 4) scPlainC.nd rfl (Or.inl rfl) (pe_cal c2 hr (pa_cons (pv 0) (pa_cons (pv 1) (pa_cons (pv 2) (pa_cons (pv 5) pa_nil)))))) (pss_one (ps_set (i := 3) scPlainC.nd rfl (Or.inl rfl) (pv 5)))) pss_nil)))
      (pss_one (ps_ret (pv 3))))), ?_⟩
    refine ⟨_, rfl, a, wl, sl, fp, p, rfl, hP, _, rfl, _, rfl, a, wl, sl, fp, p, h, rfl, hP, hh, fun L nL => ⟨L, rfl, ⟨_, SqL.of upd_same⟩, ?_⟩⟩
    have sL := same_upd (o := .lst (nV (choices p (p.winds.getD h 0)))) nL
    refine for_list (K := K) (a := L) (xs := nV (choices p (p.winds.getD h 0))) (fun i σ H' => ∃ (v : Option V) (m : Nat × Nat), m = ((choices p (p.winds.getD h 0)).take i).foldl (plainStep p b (p.winds.getD h 0)) (0, p.bare) ∧
        σ = [some (.ref a), some (.int h), some (.int b), some (.int (m.2 : Nat)), some (.int (m.1 : Nat)), v] ∧ H' = upd H L (.lst (nV (choices p (p.winds.getD h 0))))) ⟨none, (0, p.bare), rfl, rfl, rfl⟩
      (fun i σ H' _ ⟨_, _, _, _, e⟩ => by rw [e]; exact SqL.of upd_same) ?_ ?_
    · rintro i y σ H' hy ⟨v, m, em, rfl, rfl⟩
      obtain ⟨n, hn, rfl⟩ := nV_of hy
      have hib := choices_le (List.mem_of_getElem? hn)
      have hP' := hP.same sL
      have ex : ((choices p (p.winds.getD h 0)).take (i + 1)).foldl (plainStep p b (p.winds.getD h 0)) (0, p.bare) = plainStep p b (p.winds.getD h 0) m n := by
        rw [take_snoc hn, List.foldl_append, ← em]
        rfl
      refine ⟨_, rfl, _, rfl, _, rfl, _, rfl, a, wl, sl, fp, p, h, b, n, rfl, hP', hh, hib.1, _, rfl, _, _, rfl, rfl, _, rfl, ?_⟩
      rw [lt_int]
      by_cases c : m.1 < p.gain b n (p.winds.getD h 0)
      · rw [decide_eq_true c]
        refine iteT ⟨_, rfl, _, rfl, _, rfl, _, rfl, a, wl, sl, fp, p, h, b, n, rfl, hP', hh, hib.1, _, rfl, _, (p.gain b n (p.winds.getD h 0), n), ?_, rfl, rfl⟩
        rw [ex, plainStep, if_pos c]
      · rw [decide_eq_false c]
        refine iteF ⟨_, m, ?_, rfl, rfl⟩
        rw [ex, plainStep, if_neg c]
    · rintro σ H' ⟨v, m, em, rfl, rfl⟩
      rw [nV_len, List.take_length] at em
      refine ⟨_, rfl, ?_⟩
      rw [em]
      exact k _ sL
/-! ### plain_plan -/
theorem scPlain : FnScope ["passage", "found", "before", "hour"] ["passage"] (defScope (top 26)) := ⟨rfl, rfl, rfl, by decide +kernel, rfl, by decide +kernel, by decide +kernel⟩
theorem ok_plain {f : Addr} {fd : FuncData} (F : Fun K "plain_plan" "plain_plan" (top 26) f fd) (T : Txt K mg CS CP CB CD) (c1 : Cal P w K mg base "none_of" 1 ["passage"] (spNone CS CP)) (c2 : Cal P w K mg base "plain_choice" 4 ["passage", "hour", "before"] (spPlainC CS CP)) :
    FnOk P w K mg base CX0 5 f fd ["passage"] (spPlain CS CP) := by
  refine F.ok scPlain (fun vs H Q E h => ?_) (fun cdv A outer s H vs Q E hr h => ?_)
  · obtain ⟨a, wl, sl, fp, p, rfl, _⟩ := h
    rfl
  · obtain ⟨a, wl, sl, fp, p, rfl, hP, k⟩ := h
    refine ⟨_, pss_cons (ps_set (i := 1) scPlain.nd rfl (Or.inl rfl) (pe_lst pa_nil))
      (pss_cons (ps_set (i := 2) scPlain.nd rfl (Or.inl rfl) (pe_cal c1 hr (pa_cons (pv 0) pa_nil)))
      (pss_cons (ps_for PassesOwn.never rfl (pi_range1 rfl T.range (pa_cons (pe_callB call_len_seq (by rfl) T.len PySem.boot_len (pa_cons (pe_fld (pv 0) rfl) pa_nil)) pa_nil)) (pg_name (i := 3) scPlain.nd rfl (Or.inl rfl))
        (pss_cons (ps_set (i := 2) scPlain.nd rfl (Or.inl rfl) (pe_cal c2 hr (pa_cons (pv 0) (pa_cons (pv 3) (pa_cons (pv 2) pa_nil)))))
        (pss_one (ps_expr (pe_bm PySem.F.plainAttrs_list PySem.F.slot_list_append PySem.F.type_list_append mt_append (pv 1) (pa_cons (pv 2) pa_nil))))))
      (pss_one (ps_ret (pv 1))))), ?_⟩
    have hw := hP.good.hours
    refine ⟨Nat.zero_le _, fun D hD => ?_⟩
    have sD := same_upd (o := .lst []) hD
    obtain ⟨dx, ho⟩ := (hP.same sD).obj
    refine ⟨_, rfl, a, wl, sl, fp, p, rfl, hP.same sD, _, rfl, a, CP, dx, _, _, rfl, ho, T.clP, T.nP3, pF_3 _ _ _ _, wl, _, rfl, .inl (SqL.of (hP.same sD).winds), _, rfl, by rw [nV_len]; omega, by rw [nV_len]; omega, ?_⟩
    have n1 : ((nV p.winds).length : Int).toNat = p.winds.length := by rw [nV_len]; omega
    rw [n1]
    have pl : p.plain.length = p.winds.length := plain_len p p.winds p.bare
    refine for_range (lo := 0) (n := p.winds.length) (fun i σ H' => ∃ v : Option V, σ = [some (.ref a), some (.ref D), some (.int (ahead p.bare p.plain i)), v] ∧ Same H H' ∧ H' D = some (.lst (nV (p.plain.take i)))) ⟨none, rfl, sD, upd_same⟩ ?_ ?_
    · rintro i σ H' hi ⟨v, rfl, s1, h1⟩
      have e : (0 : Int) + (i : Int) = i := Int.zero_add _
      rw [e]
      refine ⟨_, rfl, _, rfl, _, rfl, a, wl, sl, fp, p, i, _, rfl, hP.same s1, hi, fun H2 s2 => ?_⟩
      have h2 := s2 _ _ h1
      have hg : p.plain[i]? = some (plainC p (ahead p.bare p.plain i) (p.winds.getD i 0)) := plain_get p p.winds p.bare i hi
      have hgd : p.plain.getD i 0 = plainC p (ahead p.bare p.plain i) (p.winds.getD i 0) := by rw [List.getD_eq_getElem?_getD, hg]; rfl
      refine ⟨_, rfl, .inl ⟨rfl, _, SqL.of h2⟩, _, rfl, D, _, _, rfl, rfl, h2, small1000 ?_, ?_⟩
      · rw [nV_len, List.length_take]
        omega
      · refine ⟨some (.int i), ?_, ?_, ?_⟩
        · rw [ahead_succ, hgd]
          rfl
        · exact fun b o ee => by
            rw [upd_ne (ne_of_none ee hD)]
            exact s2 _ _ (s1 _ _ ee)
        · rw [upd_same, take_snoc hg, nV_append]
          rfl
    · rintro σ H' ⟨v, rfl, s1, h1⟩
      refine ⟨_, rfl, k H' D s1 hD ?_⟩
      rw [← pl, List.take_length] at h1
      exact h1
/-! ### is_plan -/
theorem scIsPlan : FnScope ["passage", "plan", "sail"] ["passage", "plan"] (defScope (top 27)) := ⟨rfl, rfl, rfl, by decide +kernel, rfl, by decide +kernel, by decide +kernel⟩
theorem ok_isPlan {f : Addr} {fd : FuncData} (F : Fun K "is_plan" "is_plan" (top 27) f fd) (T : Txt K mg CS CP CB CD) (c1 : Cal P w K mg base "none_of" 1 ["passage"] (spNone CS CP)) :
    FnOk P w K mg base CX0 2 f fd ["passage", "plan"] (spIsPlan K CS CP) := by
  refine F.ok scIsPlan (fun vs H Q E h => ?_) (fun cdv A outer s H vs Q E hr h => ?_)
  · obtain ⟨a, wl, sl, fp, p, l, plan, rfl, _⟩ := h
    rfl
  · obtain ⟨a, wl, sl, fp, p, l, plan, rfl, hP, hl, hn, k⟩ := h
    refine ⟨_, pss_one (ps_ret (pe_and (pe_cmpR op_eq (pe_callB call_len_seq (by rfl) T.len PySem.boot_len (pa_cons (pv 1) pa_nil)) (pe_callB call_len_seq (by rfl) T.len PySem.boot_len (pa_cons (pe_fld (pv 0) rfl) pa_nil)) (nomark _))
      (pe_one (pe_cmpR (op_eqD hr.units) (pe_lc (own := [("sail", 2)]) (g := gName 2) (by rfl) scIsPlan.nd (pi_list (pv 1)) (blkOk_by (own := [("sail", 2)]) (N := ["passage", "plan", "sail"]) (sc := defScope (top 27)) (by decide +kernel))
        (fun _ _ _ _ _ => pg_name (i := 2) scIsPlan.nd rfl (Or.inl rfl)) (fun _ _ _ _ _ => pts_one (pt_cmpR op_gt (pv 2) (pe_cal c1 hr (pa_cons (pv 0) pa_nil)) (nomark _))) (fun _ _ _ _ _ => pv 2)) (pe_lst pa_nil) (nomark _))))), ?_⟩
    obtain ⟨dx, ho⟩ := hP.obj
    refine ⟨_, rfl, l, _, rfl, .inl hl, _, rfl, a, CP, dx, _, _, rfl, ho, T.clP, T.nP3, pF_3 _ _ _ _, wl, _, rfl, .inl (SqL.of hP.winds), rfl, _, rfl, ?_⟩
    rw [eq_int, nV_len, nV_len]
    by_cases c : plan.length = p.winds.length
    · rw [decide_eq_true c]
      refine iteT ⟨_, rfl, l, rfl, ⟨_, hl⟩, fun D hD => ?_⟩
      refine lc_list (K := K) (a := l) (xs := nV plan) (fun i H' => H' = upd H D (.lst (nV ((plan.take i).filter fun n => decide (p.bare < n))))) rfl (fun i H' _ e => by rw [e]; exact (same_upd hD).seq hl) ?_ ?_
      · rintro i y H' hy rfl
        obtain ⟨n, hn', rfl⟩ := nV_of hy
        refine ⟨rfl, _, rfl, _, rfl, a, wl, sl, fp, p, rfl, hP.same (same_upd hD), _, _, rfl, rfl, _, rfl, ?_⟩
        rw [lt_int, take_snoc hn', List.filter_append]
        cases c2 : decide (p.bare < n) with
        | true =>
          refine iteT ⟨_, rfl, _, upd_same, small1000 ?_, ?_⟩
          · rw [nV_len]
            refine Nat.le_trans (List.length_filter_le _ _) ?_
            rw [List.length_take]
            omega
          · rw [upd_upd, List.filter_cons, if_pos c2, nV_append]
            rfl
        | false =>
          refine iteF ?_
          rw [List.filter_cons, if_neg (by rw [c2]; exact Bool.false_ne_true), List.filter_nil, List.append_nil]
      · rintro H' rfl
        rw [nV_len, List.take_length]
        refine ⟨Nat.zero_le _, fun D2 hD2 => ?_⟩
        have s1 := same_upd (o := .lst (nV (plan.filter fun n => decide (p.bare < n)))) hD
        have s2 := same_upd (o := .lst []) hD2
        have e2 : (upd (upd H D (.lst (nV (plan.filter fun n => decide (p.bare < n))))) D2 (.lst [])) D = some (.lst (((plan.filter fun n => decide (p.bare < n)).map fun (n : Nat) => (n : Int)).map V.int)) := by
          rw [← nV_ints]
          exact s2 _ _ upd_same
        refine ⟨_, _, .lst (SqL.of e2) (dp_ints _), .lst (SqL.of upd_same) .nil, shaped_ints _, shaped_ints [], Qv (k _ (s1.trans s2)) (congrArg V.bl ?_)⟩
        apply Bool.eq_iff_iff.mpr
        rw [told_iff]
        cases h : plan.filter fun n => decide (p.bare < n) with
        | nil =>
          refine ⟨fun _ => ⟨c, fun i hi => ?_⟩, fun _ => rfl⟩
          have := List.filter_eq_nil_iff.mp h i hi
          simp at this
          omega
        | cons x r =>
          refine ⟨fun z => (by cases z), fun z => ?_⟩
          have hx : x ∈ plan.filter fun n => decide (p.bare < n) := by rw [h]; exact List.mem_cons_self
          obtain ⟨h1, h2⟩ := List.mem_filter.mp hx
          have h3 := z.2 x h1
          have h4 := of_decide_eq_true h2
          omega
    · rw [decide_eq_false c]
      refine iteF (Qv (k H (Same.refl H)) (congrArg V.bl ?_))
      cases e : p.told plan with
      | false => rfl
      | true => exact absurd ((told_iff p plan).mp e).1 c
/-! ### first_wrong -/
theorem scWrong : FnScope ["passage", "plan", "hour"] ["passage", "plan"] (defScope (top 28)) := ⟨rfl, rfl, rfl, by decide +kernel, rfl, by decide +kernel, by decide +kernel⟩
theorem ok_wrong {f : Addr} {fd : FuncData} (F : Fun K "first_wrong" "first_wrong" (top 28) f fd) (T : Txt K mg CS CP CB CD) (c1 : Cal P w K mg base "may_be" 2 ["passage", "hour", "sail"] (spMay CS CP)) :
    FnOk P w K mg base CX0 3 f fd ["passage", "plan"] (spWrong K CS CP) := by
  refine F.ok scWrong (fun vs H Q E h => ?_) (fun cdv A outer s H vs Q E hr h => ?_)
  · obtain ⟨a, wl, sl, fp, p, l, plan, rfl, _⟩ := h
    rfl
  · obtain ⟨a, wl, sl, fp, p, l, plan, rfl, hP, hl, hn, hle, k⟩ := h
    refine ⟨_, pss_cons (ps_for PassesOwn.never rfl (pi_range1 rfl T.range (pa_cons (pe_callB call_len_seq (by rfl) T.len PySem.boot_len (pa_cons (pv 1) pa_nil)) pa_nil)) (pg_name (i := 2) scWrong.nd rfl (Or.inl rfl))
        (pss_one (ps_if (pt_not (pt_val (pe_cal c1 hr (pa_cons (pv 0) (pa_cons (pv 2) (pa_cons (pe_ix ix_list (pv 1) (pv 2) (fun _ _ => rfl)) pa_nil)))))) (pss_one (ps_ret (pv 2))) pss_nil)))
      (pss_one (ps_ret (pe_un un_neg pe_int))), ?_⟩
    have hw := hP.good.hours
    refine ⟨_, rfl, l, _, rfl, .inl hl, _, rfl, by rw [nV_len]; omega, by rw [nV_len]; omega, ?_⟩
    have n1 : ((nV plan).length : Int).toNat = plan.length := by rw [nV_len]; omega
    rw [n1]
    refine for_range (lo := 0) (n := plan.length) (fun i σ H' => ∃ v : Option V, σ = [some (.ref a), some (.ref l), v] ∧ H' = H ∧ ∀ j, j < i → mayBe p (p.winds.getD j 0) (plan.getD j 0) = true) ⟨none, rfl, rfl, fun j h => absurd h (Nat.not_lt_zero _)⟩ ?_ ?_
    · rintro i σ H' hi ⟨v, rfl, rfl, hall⟩
      have e : (0 : Int) + (i : Int) = i := Int.zero_add _
      rw [e]
      refine ⟨_, rfl, _, rfl, _, rfl, _, rfl, l, _, _, _, rfl, rfl, hl, atI_nat (nV_get (getD_get hi)), a, wl, sl, fp, p, i, _, rfl, hP, by omega, hle _ (getD_mem hi), _, rfl, ?_⟩
      cases c : mayBe p (p.winds.getD i 0) (plan.getD i 0) with
      | true =>
        refine iteF ⟨_, rfl, rfl, fun j hj => ?_⟩
        by_cases q : j = i
        · subst q; exact c
        · exact hall j (by omega)
      | false =>
        refine iteT ⟨_, rfl, Qv k (congrArg V.int ?_)⟩
        unfold wrongOf
        rw [torn_at p plan i hi c hall]
    · rintro σ H' ⟨v, rfl, rfl, hall⟩
      refine ⟨_, rfl, Qv k (congrArg V.int ?_)⟩
      unfold wrongOf
      have q := Option.isNone_iff_eq_none.mp ((torn_none p plan).mpr hall)
      rw [q]
end
end Sc
namespace Sc
open PySem PySem.Spec PyProof.Rows L2
section
variable (K : PySem.W.Frag) (CS CP : Addr)
def spFarther : Sp := fun vs H Q _ => ∃ (a wl sl : Addr) (fp : List Addr) (p : Uw30.Passage) (h : Nat) (l : Addr) (r : List Int), vs = [.ref a, .int h, .ref l] ∧ PassAt CS CP H a wl sl fp p ∧ h < p.winds.length ∧ SqL K H l (r.map V.int) ∧ r.length = p.bare + 1 ∧ aheadL r ≠ [] ∧
  ∀ H' D, Same H H' → H D = none → H' D = some (.lst ((fartherM p (p.winds.getD h 0) r).map V.int)) → Q (.ref D) H'
def soonOf (p : Uw30.Passage) (d : Nat) : Int := match soonM p d with
  | some h => (h : Int)
  | none => -1
def spSoon : Sp := fun vs H Q _ => ∃ (a wl sl : Addr) (fp : List Addr) (p : Uw30.Passage) (d : Nat), vs = [.ref a, .int d] ∧ PassAt CS CP H a wl sl fp p ∧ ∀ H', Same H H' → Q (.int (soonOf p d)) H'
end
def partF (p : Uw30.Passage) (wd : Nat) (r : List Int) (l : List Nat) : List Int := (List.range (p.bare + 1)).map fun j => if j ∈ l then maxL (gainsL p wd j r) else -1
theorem partF_nil (p : Uw30.Passage) (wd : Nat) (r : List Int) : partF p wd r [] = List.replicate (p.bare + 1) (-1) := by
  unfold partF
  apply List.ext_getElem?
  intro j
  rw [List.getElem?_map]
  by_cases c : j < p.bare + 1
  · rw [List.getElem?_range c, List.getElem?_replicate, if_pos c]
    rfl
  · rw [List.getElem?_eq_none (by simp; omega), List.getElem?_eq_none (by simp; omega)]
    rfl
theorem partF_snoc (p : Uw30.Passage) (wd : Nat) (r : List Int) (l : List Nat) (n : Nat) (hn : n ≤ p.bare) : partF p wd r (l ++ [n]) = (partF p wd r l).set n (maxL (gainsL p wd n r)) := by
  unfold partF
  apply List.ext_getElem?
  intro j
  by_cases c : j < p.bare + 1
  · by_cases q : n = j
    · subst q
      rw [List.getElem?_set_self (by simp; omega), List.getElem?_map, List.getElem?_range c]
      simp
    · rw [List.getElem?_set_ne q, List.getElem?_map, List.getElem?_map, List.getElem?_range c]
      have q' : ¬ j = n := fun z => q z.symm
      simp [q']
  · rw [List.getElem?_eq_none (by simp; omega), List.getElem?_eq_none (by simp; omega)]
theorem partF_all (p : Uw30.Passage) (wd : Nat) (r : List Int) : partF p wd r (choices p wd) = fartherM p wd r := by
  unfold partF fartherM
  apply List.map_congr_left
  intro j hj
  have e : j ∈ choices p wd ↔ mayBe p wd j = true := by
    unfold choices
    rw [List.mem_filter]
    exact ⟨fun z => z.2, fun z => ⟨hj, z⟩⟩
  by_cases c : mayBe p wd j = true
  · rw [if_pos (e.mpr c), if_pos c]
  · rw [if_neg (fun z => c (e.mp z)), if_neg c]
theorem int_get {r : List Int} {b : Nat} (h : b < r.length) : (r.map V.int)[b]? = some (V.int (r.getD b (-1))) := by
  rw [List.getElem?_map, List.getElem?_eq_getElem h, List.getD_eq_getElem?_getD, List.getElem?_eq_getElem h]
  rfl
theorem ixN_nat {n i : Nat} (h : i < n) : ixN n (i : Int) = some i := by
  unfold ixN
  rw [if_pos (by omega), if_pos (by omega)]
  simp
theorem flat_rep (n : Nat) (v : V) : (List.replicate n [v]).flatten = List.replicate n v := by
  induction n with
  | zero => rfl
  | succ n ih =>
    rw [List.replicate_succ, List.flatten_cons, ih, List.replicate_succ]
    rfl
section
variable {P : Program} {w : World} {K : PySem.W.Frag} {mg : Str → Option Value} {base : Heap} {CS CP CB CD : Addr}
/-! ### farther -/
abbrev nFa : List Str := ["passage", "hour", "reached", "found", "sail", "ahead", "before"]
theorem scFa : FnScope nFa ["passage", "hour", "reached"] (defScope (top 29)) := ⟨rfl, rfl, rfl, by decide +kernel, rfl, by decide +kernel, by decide +kernel⟩
theorem ok_farther {f : Addr} {fd : FuncData} (F : Fun K "farther" "farther" (top 29) f fd) (T : Txt K mg CS CP CB CD) (c1 : Cal P w K mg base "none_of" 1 ["passage"] (spNone CS CP)) (c2 : Cal P w K mg base "gain" 3 ["passage", "hour", "before", "sail"] (spGain CS CP)) (c3 : Cal P w K mg base "choices" 3 ["passage", "hour"] (spChoices CS CP)) :
    FnOk P w K mg base CX0 4 f fd ["passage", "hour", "reached"] (spFarther K CS CP) := by
  refine F.ok scFa (fun vs H Q E h => ?_) (fun cdv A outer s H vs Q E hr h => ?_)
  · obtain ⟨a, wl, sl, fp, p, h, l, r, rfl, _⟩ := h
    rfl
  · obtain ⟨a, wl, sl, fp, p, h, l, r, rfl, hP, hh, hl, hn, hne, k⟩ := h
    refine ⟨_, pss_cons (ps_set (i := 3) scFa.nd rfl (Or.inl rfl) (pe_op op_rep (pe_lst (pa_cons (pe_un un_neg pe_int) pa_nil)) (pe_op op_add (pe_cal c1 hr (pa_cons (pv 0) pa_nil)) pe_int)))
      (pss_cons (ps_for PassesOwn.never rfl (pi_list (pe_cal c3 hr (pa_cons (pv 0) (pa_cons (pv 1) pa_nil)))) (pg_name (i := 4) scFa.nd rfl (Or.inr rfl))
        (pss_cons (ps_setLc (i := 5) (own := [("before", 6)]) (g := gName 6) (by rfl) scFa.nd rfl rfl (sw_true rfl rfl rfl (by decide +kernel)) (pi_range1 rfl T.range (pa_cons (pe_callB call_len_seq (by rfl) T.len PySem.boot_len (pa_cons (pv 2) pa_nil)) pa_nil))
            (blkOk_by (own := [("before", 6)]) (N := nFa) (sc := defScope (top 29)) (by decide +kernel)) (fun _ _ _ _ _ => pg_name (i := 6) scFa.nd rfl (Or.inl rfl))
            (fun _ _ _ _ _ => pts_one (pt_cmpR op_ge (pe_ix (r := rIxL K) ix_list (pv 2) (pv 6) (fun _ _ => rfl)) pe_int (nomark _))) (fun _ _ _ _ _ => pv 6))
        (pss_one (ps_asg (pe_callB (cr_max rfl) (by rfl) T.max (by decide +kernel) (pa_cons (pe_lc (own := [("before", 6)]) (g := gName 6) (by rfl) scFa.nd (pi_list (pv 5))
            (blkOk_by (own := [("before", 6)]) (N := nFa) (sc := defScope (top 29)) (by decide +kernel)) (fun _ _ _ _ _ => pg_name (i := 6) scFa.nd rfl (Or.inl rfl)) (fun _ _ _ _ _ => pts_nil)
            (fun _ _ _ _ _ => pe_op op_add (pe_ix (r := rIxL K) ix_list (pv 2) (pv 6) (fun _ _ => rfl)) (pe_cal c2 hr (pa_cons (pv 0) (pa_cons (pv 1) (pa_cons (pv 6) (pa_cons (pv 4) pa_nil)))))))
            pa_nil)) (pg_sub (pv 3) (pv 4) set_list)))))
      (pss_one (ps_ret (pv 3)))), ?_⟩
    have hb : p.bare ≤ 4 := hP.good.sails
    -- found = [-1] * (none_of(passage) + 1)
    refine ⟨_, rfl, (by show 1 ≤ sizeLine; decide), fun p1 n1 => ?_⟩
    have s1 := same_upd (o := .lst [V.int (-1)]) n1
    refine ⟨_, rfl, a, wl, sl, fp, p, rfl, hP.same s1, _, _, rfl, rfl, p1, _, _, rfl, rfl, upd_same, by omega, by omega, ?_, fun D nD => ?_⟩
    · have : (5 : Nat) ≤ sizeLine := by decide
      show 1 * ((p.bare : Int) + 1).toNat ≤ sizeLine
      omega
    rw [flat_rep]
    have eD : (.lst (List.replicate ((p.bare : Int) + 1).toNat (V.int (-1))) : HO) = .lst ((partF p (p.winds.getD h 0) r []).map V.int) := by
      rw [partF_nil, List.map_replicate]
      have : ((p.bare : Int) + 1).toNat = p.bare + 1 := by omega
      rw [this]
    have s2 := s1.trans (same_upd (o := .lst (List.replicate ((p.bare : Int) + 1).toNat (V.int (-1)))) nD)
    have hD : H D = none := s1.free nD
    -- for sail in choices(passage, hour)
    refine ⟨_, rfl, _, rfl, a, wl, sl, fp, p, h, rfl, hP.same s2, hh, fun L nL => ⟨L, rfl, ⟨_, SqL.of upd_same⟩, ?_⟩⟩
    have s3 := same_upd (o := .lst (nV (choices p (p.winds.getD h 0)))) nL
    refine for_list (K := K) (a := L) (xs := nV (choices p (p.winds.getD h 0))) (fun i σ H' => ∃ v4 v5 : Option V, σ = [some (.ref a), some (.int h), some (.ref l), some (.ref D), v4, v5, none] ∧ Same H H' ∧ H' L = some (.lst (nV (choices p (p.winds.getD h 0)))) ∧
        H' D = some (.lst ((partF p (p.winds.getD h 0) r ((choices p (p.winds.getD h 0)).take i)).map V.int)) ∧ L ≠ D)
      ⟨none, none, rfl, s2.trans s3, upd_same, s3 _ _ (by rw [upd_same]; exact congrArg some eD), Ne.symm (ne_of_none (upd_same) nL)⟩ (fun i σ H' _ ⟨_, _, _, _, q, _⟩ => SqL.of q) ?_ ?_
    · rintro i y σ H3 hy ⟨v4, v5, rfl, t3, hL, hDD, hLD⟩
      obtain ⟨n, hn', rfl⟩ := nV_of hy
      have hib := choices_le (List.mem_of_getElem? hn')
      have hl3 := t3.seq hl
      have hP3 := hP.same t3
      -- ahead = [before for before in range(len(reached)) if reached[before] >= 0]
      refine ⟨_, rfl, l, _, rfl, .inl hl3, _, rfl, by rw [List.length_map]; omega, by rw [List.length_map]; omega, fun A1 nA => ?_⟩
      have nr : ((r.map V.int).length : Int).toNat = r.length := by rw [List.length_map]; omega
      rw [nr]
      refine lc_range (lo := 0) (n := r.length) (fun j H' => H' = upd H3 A1 (.lst (nV ((List.range j).filter fun b => decide (0 ≤ r.getD b (-1)))))) rfl ?_ ?_
      · rintro j H' hj rfl
        have e : (0 : Int) + (j : Int) = j := Int.zero_add _
        rw [e]
        refine ⟨rfl, _, rfl, _, rfl, l, _, _, _, rfl, rfl, (same_upd nA).seq hl3, atI_nat (int_get hj), _, _, rfl, rfl, _, rfl, ?_⟩
        have le : ((List.range j).filter fun b => decide (0 ≤ r.getD b (-1))).length ≤ 5 := Nat.le_trans (List.length_filter_le _ _) (by rw [List.length_range]; omega)
        rw [List.range_succ, List.filter_append]
        cases c : decide (0 ≤ r.getD j (-1)) with
        | true =>
          refine iteT ⟨_, rfl, _, upd_same, small1000 (by rw [nV_len]; omega), ?_⟩
          rw [upd_upd, List.filter_cons, if_pos c, nV_append]
          rfl
        | false =>
          refine iteF ?_
          rw [List.filter_cons, if_neg (by rw [c]; exact Bool.false_ne_true), List.filter_nil, List.append_nil]
      · rintro H4 rfl
        have s4 := same_upd (o := .lst (nV (aheadL r))) nA
        -- found[sail] = max([..])
        refine ⟨_, rfl, A1, rfl, ⟨_, SqL.of upd_same⟩, fun G nG => ?_⟩
        refine lc_list (K := K) (a := A1) (xs := nV (aheadL r)) (fun m H' => H' = upd (upd H3 A1 (.lst (nV (aheadL r)))) G (.lst ((((aheadL r).take m).map fun b => r.getD b (-1) + (p.gain b n (p.winds.getD h 0) : Int)).map V.int))) rfl
          (fun m H' _ e => by rw [e]; exact SqL.of (same_upd nG _ _ upd_same)) ?_ ?_
        · rintro m z H' hz rfl
          obtain ⟨b, hb', rfl⟩ := nV_of hz
          obtain ⟨hb1, hb2⟩ := mem_aheadL.mp (List.mem_of_getElem? hb')
          have s5 : ∀ o, Same H3 (upd (upd H3 A1 (.lst (nV (aheadL r)))) G o) := fun o => s4.trans (same_upd nG)
          refine ⟨rfl, yes (iteT ⟨_, rfl, _, rfl, l, _, _, _, rfl, rfl, (s5 _).seq hl3, atI_nat (int_get hb1), _, rfl, _, rfl, _, rfl, _, rfl, a, wl, sl, fp, p, h, b, n, rfl, hP3.same (s5 _), hh, hib.1, _, _, rfl, rfl, _, upd_same, small1000 ?_, ?_⟩)⟩
          · rw [List.length_map, List.length_map, List.length_take]
            have : (aheadL r).length ≤ r.length := Nat.le_trans (List.length_filter_le _ _) (by rw [List.length_range]; omega)
            omega
          · rw [upd_upd, take_snoc hb', List.map_append, List.map_append]
            rfl
        · rintro H5 rfl
          rw [nV_len, List.take_length]
          have hgl : ((aheadL r).map fun b => r.getD b (-1) + (p.gain b n (p.winds.getD h 0) : Int)) = gainsL p (p.winds.getD h 0) n r := rfl
          rw [hgl]
          have s5 : Same H3 (upd (upd H3 A1 (.lst (nV (aheadL r)))) G (.lst ((gainsL p (p.winds.getD h 0) n r).map V.int))) := s4.trans (same_upd nG)
          refine ⟨G, gainsL p (p.winds.getD h 0) n r, rfl, SqL.of upd_same, ?_, fun mx m1 m2 => ?_⟩
          · exact List.length_pos_iff.mpr fun e => hne (List.map_eq_nil_iff.mp e)
          · have em := maxL_uniq m1 m2
            refine ⟨_, rfl, _, rfl, D, _, _, n, rfl, rfl, s5 _ _ hDD, ?_, ?_⟩
            · rw [List.length_map, partF, List.length_map, List.length_range]
              exact ixN_nat (by omega)
            · refine ⟨_, _, rfl, ?_, ?_, ?_, hLD⟩
              · exact fun b o ee => by
                  rw [upd_ne (ne_of_none ee hD)]
                  exact s5 _ _ (t3 _ _ ee)
              · rw [upd_ne hLD]
                exact s5 _ _ hL
              · rw [upd_same, take_snoc hn', partF_snoc _ _ _ _ _ hib.1, em, List.map_set]
    · rintro σ H3 ⟨v4, v5, rfl, t3, hL, hDD, hLD⟩
      refine ⟨_, rfl, k H3 D t3 hD ?_⟩
      rw [nV_len, List.take_length, partF_all] at hDD
      exact hDD
/-! ### soonest -/
theorem reach_take {p : Uw30.Passage} {i : Nat} (h : i < p.winds.length) : reach p (p.winds.take (i + 1)) = fartherM p (p.winds.getD i 0) (reach p (p.winds.take i)) := by
  unfold reach
  rw [take_snoc (getD_get h), List.foldl_append]
  rfl
theorem scSoon : FnScope ["passage", "far", "reached", "hour"] ["passage", "far"] (defScope (top 30)) := ⟨rfl, rfl, rfl, by decide +kernel, rfl, by decide +kernel, by decide +kernel⟩
theorem ok_soon {f : Addr} {fd : FuncData} (F : Fun K "soonest" "soonest" (top 30) f fd) (T : Txt K mg CS CP CB CD) (c1 : Cal P w K mg base "none_of" 1 ["passage"] (spNone CS CP)) (c2 : Cal P w K mg base "farther" 4 ["passage", "hour", "reached"] (spFarther K CS CP)) :
    FnOk P w K mg base CX0 5 f fd ["passage", "far"] (spSoon CS CP) := by
  refine F.ok scSoon (fun vs H Q E h => ?_) (fun cdv A outer s H vs Q E hr h => ?_)
  · obtain ⟨a, wl, sl, fp, p, d, rfl, _⟩ := h
    rfl
  · obtain ⟨a, wl, sl, fp, p, d, rfl, hP, k⟩ := h
    refine ⟨_, pss_cons (ps_set (i := 2) scSoon.nd rfl (Or.inl rfl) (pe_op op_cat (pe_op op_rep (pe_lst (pa_cons (pe_un un_neg pe_int) pa_nil)) (pe_cal c1 hr (pa_cons (pv 0) pa_nil))) (pe_lst (pa_cons pe_int pa_nil))))
      (pss_cons (ps_for PassesOwn.never rfl (pi_range1 rfl T.range (pa_cons (pe_op op_add (pe_callB call_len_seq (by rfl) T.len PySem.boot_len (pa_cons (pe_fld (pv 0) rfl) pa_nil)) pe_int) pa_nil)) (pg_name (i := 3) scSoon.nd rfl (Or.inl rfl))
        (pss_cons (ps_if (pt_cmpR op_ge (pe_callB (cr_max rfl) (by rfl) T.max (by decide +kernel) (pa_cons (pv 2) pa_nil)) (pv 1) (nomark _)) (pss_one (ps_ret (pv 3))) pss_nil)
        (pss_one (ps_if (pt_cmpR op_lt (pv 3) (pe_callB call_len_seq (by rfl) T.len PySem.boot_len (pa_cons (pe_fld (pv 0) rfl) pa_nil)) (nomark _))
          (pss_one (ps_set (i := 2) scSoon.nd rfl (Or.inl rfl) (pe_cal c2 hr (pa_cons (pv 0) (pa_cons (pv 3) (pa_cons (pv 2) pa_nil)))))) pss_nil))))
      (pss_one (ps_ret (pe_un un_neg pe_int)))), ?_⟩
    have hb : p.bare ≤ 4 := hP.good.sails
    have hw := hP.good.hours
    have z5 : (5 : Nat) ≤ sizeLine := by decide
    -- reached = [-1] * none_of(passage) + [0]
    refine ⟨_, rfl, (by show 1 ≤ sizeLine; decide), fun p1 n1 => ?_⟩
    have s1 := same_upd (o := .lst [V.int (-1)]) n1
    refine ⟨_, rfl, a, wl, sl, fp, p, rfl, hP.same s1, p1, _, _, rfl, rfl, upd_same, by omega, by omega, ?_, fun p2 n2 => ?_⟩
    · show 1 * ((p.bare : Int)).toNat ≤ sizeLine
      omega
    have s2 := s1.trans (same_upd (o := .lst (List.replicate ((p.bare : Int)).toNat [V.int (-1)]).flatten) n2)
    refine ⟨(by show 1 ≤ sizeLine; decide), fun p3 n3 => ?_⟩
    have s3 := same_upd (o := .lst [V.int 0]) n3
    refine ⟨p2, p3, _, _, rfl, rfl, s3 _ _ upd_same, upd_same, ?_, fun R nR => ?_⟩
    · rw [flat_rep, List.length_replicate]
      show ((p.bare : Int)).toNat + 1 ≤ sizeLine
      omega
    have s4 := (s2.trans s3).trans (same_upd (o := .lst ((List.replicate ((p.bare : Int)).toNat [V.int (-1)]).flatten ++ [V.int 0])) nR)
    have eR : (.lst ((List.replicate ((p.bare : Int)).toNat [V.int (-1)]).flatten ++ [V.int 0]) : HO) = .lst ((reach p (p.winds.take 0)).map V.int) := by
      rw [flat_rep]
      show _ = HO.lst ((List.replicate p.bare (-1) ++ [0]).map V.int)
      rw [List.map_append, List.map_replicate]
      rfl
    -- for hour in range(len(passage.winds) + 1)
    have hP4 := hP.same s4
    obtain ⟨dx, ho⟩ := hP.obj
    refine ⟨_, rfl, a, CP, dx, _, _, rfl, s4 _ _ ho, T.clP, T.nP3, pF_3 _ _ _ _, wl, _, rfl, .inl (SqL.of hP4.winds), _, _, rfl, rfl, _, rfl, by rw [nV_len]; omega, by rw [nV_len]; omega, ?_⟩
    have nn : (((nV p.winds).length : Int) + 1).toNat = p.winds.length + 1 := by rw [nV_len]; omega
    rw [nn]
    refine for_range (lo := 0) (n := p.winds.length + 1) (fun i σ H' => ∃ (v : Option V) (R : Addr), σ = [some (.ref a), some (.int d), some (.ref R), v] ∧ Same H H' ∧ H' R = some (.lst ((reach p (p.winds.take i)).map V.int)) ∧
        ∀ j, j < i → ¬ (d : Int) ≤ maxL (reach p (p.winds.take j))) ⟨none, R, rfl, s4, by rw [upd_same]; exact congrArg some eR, fun j hj => absurd hj (Nat.not_lt_zero _)⟩ ?_ ?_
    · rintro i σ H5 hi ⟨v, R5, rfl, s5, hR, hall⟩
      have e : (0 : Int) + (i : Int) = i := Int.zero_add _
      rw [e]
      have RR := reached p (p.winds.take i)
      refine ⟨_, rfl, R5, reach p (p.winds.take i), rfl, SqL.of hR, by rw [RR.len]; omega, fun mx m1 m2 => ?_⟩
      have em := maxL_uniq m1 m2
      refine ⟨_, rfl, _, _, rfl, rfl, _, rfl, ?_⟩
      by_cases c : (d : Int) ≤ mx
      · rw [decide_eq_true c]
        refine iteT ⟨_, rfl, Qv (k H5 s5) (congrArg V.int ?_)⟩
        unfold soonOf
        have q : soonM p d = some i := by
          unfold soonM
          rw [List.find?_range_eq_some]
          refine ⟨decide_eq_true (by rw [← em]; exact c), List.mem_range.mpr hi, fun j hj => ?_⟩
          rw [decide_eq_false (hall j hj)]
          rfl
        rw [q]
      · rw [decide_eq_false c]
        have hall' : ∀ j, j < i + 1 → ¬ (d : Int) ≤ maxL (reach p (p.winds.take j)) := fun j hj => by
          by_cases q : j = i
          · subst q
            rw [← em]
            exact c
          · exact hall j (by omega)
        have hP5 := hP.same s5
        refine iteF ⟨_, rfl, _, rfl, a, CP, dx, _, _, rfl, s5 _ _ ho, T.clP, T.nP3, pF_3 _ _ _ _, wl, _, rfl, .inl (SqL.of hP5.winds), _, _, rfl, rfl, _, rfl, ?_⟩
        rw [nV_len, lt_int]
        by_cases c2 : i < p.winds.length
        · rw [decide_eq_true c2]
          refine iteT ⟨_, rfl, _, rfl, _, rfl, a, wl, sl, fp, p, i, R5, _, rfl, hP5, c2, SqL.of hR, RR.len, RR.some, fun H6 D6 s6 n6 h6 => ?_⟩
          refine ⟨_, D6, rfl, s5.trans s6, ?_, hall'⟩
          rw [reach_take c2]
          exact h6
        · rw [decide_eq_false c2]
          refine iteF ⟨_, R5, rfl, s5, ?_, hall'⟩
          rw [List.take_of_length_le (by omega)] at hR ⊢
          exact hR
    · rintro σ H5 ⟨v, R5, rfl, s5, hR, hall⟩
      refine ⟨_, rfl, Qv (k H5 s5) (congrArg V.int ?_)⟩
      unfold soonOf
      have q : soonM p d = none := by
        unfold soonM
        rw [List.find?_eq_none]
        intro j hj
        rw [decide_eq_false (hall j (List.mem_range.mp hj))]
        exact Bool.false_ne_true
      rw [q]
end
end Sc
namespace Sc
open PySem PySem.Spec PyProof.Rows L2
/-! ### the desk -/
def IsIns (o : HO) : Prop := ∃ C dx fs, o = HO.ins C dx fs
def DeskAt (CS CP CD : Addr) (H : Hp) (d a wl sl : Addr) (fp : List Addr) (p : Uw30.Passage) : Prop := (∃ dx, H d = some (.ins CD dx (dF a))) ∧ PassAt CS CP H a wl sl fp p
def outV (x : Uw30.Ans) : List V := (Uw30Neutral.out x).map V.int
/-- an answer, nothing else changed -/
def Says (H : Hp) (Q : VK) (x : Uw30.Ans) : Prop := ∀ H' D, Same H H' → H D = none → H' D = some (.lst (outV x)) → Q (.ref D) H'
/-- an answer, the passage's lists changed -/
def Turns (CS CP : Addr) (H : Hp) (Q : VK) (a wl sl : Addr) (fp : List Addr) (y : Uw30.Passage × Uw30.Ans) : Prop := ∀ H' fp' D, PassAt CS CP H' a wl sl fp' y.1 → (∀ b o, H b = some o → (b ∉ fp ∨ IsIns o) → H' b = some o) → (∀ b ∈ fp', b ∈ fp ∨ H b = none) →
  H D = none → H' D = some (.lst (outV y.2)) → Q (.ref D) H'
/-- an answer, the desk changed -/
def Moves (CS CP CD : Addr) (H : Hp) (Q : VK) (d : Addr) (fp : List Addr) (y : Uw30.Passage × Uw30.Ans) : Prop := ∀ H' a' wl' sl' fp' D, DeskAt CS CP CD H' d a' wl' sl' fp' y.1 → (∀ b o, H b = some o → b ≠ d → b ∉ fp → H' b = some o) → (∀ b ∈ fp', b ∈ fp ∨ H b = none) →
  H D = none → H' D = some (.lst (outV y.2)) → Q (.ref D) H'
section
variable (K : PySem.W.Frag) (CS CP CD : Addr)
def spInitS : Sp := fun vs H Q _ => ∃ (x dx r : Addr) (s : Uw30.Sail), vs = [.ref x, .int s.lo, .int s.hi, .ref r] ∧ H x = some (.ins CS dx []) ∧ Q .non (upd H x (.ins CS dx (sF s r)))
def spInitP : Sp := fun vs H Q _ => ∃ (x dx : Addr) (c s : Nat), vs = [.ref x, .int c, .int s] ∧ H x = some (.ins CP dx []) ∧
  ∀ H' wl sl, H wl = none → H sl = none → wl ≠ sl → H' x = some (.ins CP dx (pF c s wl sl)) → H' wl = some (.lst []) → H' sl = some (.lst []) → (∀ b o, H b = some o → b ≠ x → H' b = some o) → Q .non H'
def spInitD : Sp := fun vs H Q _ => ∃ (x dx : Addr), vs = [.ref x] ∧ H x = some (.ins CD dx []) ∧
  ∀ H' a wl sl, H wl = none → H sl = none → DeskAt CS CP CD H' x a wl sl [wl, sl] Uw30.init → (∀ b o, H b = some o → b ≠ x → H' b = some o) → Q .non H'
def isSail (lo hi : Nat) (row : List Nat) : Bool := !decide (Uw30.WIND < hi ∨ hi < lo ∨ row = [] ∨ Uw30.DRIVES < row.length ∨ (row.all fun n => decide (n ≤ Uw30.FAR)) = false)
def spIsSail : Sp := fun vs H Q _ => ∃ (lo hi : Nat) (l : Addr) (row : List Nat), vs = [.int lo, .int hi, .ref l] ∧ SqL K H l (nV row) ∧ Q (.bl (isSail lo hi row)) H
def spBegins : Sp := fun vs H Q _ => ∃ (d a wl sl : Addr) (fp : List Addr) (p : Uw30.Passage) (c s : Nat), vs = [.ref d, .int c, .int s] ∧ DeskAt CS CP CD H d a wl sl fp p ∧ Moves CS CP CD H Q d fp (Uw30.step p (.begins c s))
def spHour : Sp := fun vs H Q _ => ∃ (a wl sl : Addr) (fp : List Addr) (p : Uw30.Passage) (wd : Nat), vs = [.ref a, .int wd] ∧ PassAt CS CP H a wl sl fp p ∧ Turns CS CP H Q a wl sl fp (Uw30.step p (.hour wd))
def spSail : Sp := fun vs H Q _ => ∃ (a wl sl : Addr) (fp : List Addr) (p : Uw30.Passage) (x y : Addr) (lo hi : Nat) (row : List Nat), vs = [.ref a, .ref x, .ref y] ∧ PassAt CS CP H a wl sl fp p ∧ SqL K H x (nV [lo, hi]) ∧ SqL K H y (nV row) ∧ Turns CS CP H Q a wl sl fp (Uw30.step p (.sail lo hi row))
def spBest : Sp := fun vs H Q _ => ∃ (a wl sl : Addr) (fp : List Addr) (p : Uw30.Passage), vs = [.ref a] ∧ PassAt CS CP H a wl sl fp p ∧ Says H Q (Uw30.step p .best).2
def spPlainA : Sp := fun vs H Q _ => ∃ (a wl sl : Addr) (fp : List Addr) (p : Uw30.Passage), vs = [.ref a] ∧ PassAt CS CP H a wl sl fp p ∧ Says H Q (Uw30.step p .plain).2
def spCheck : Sp := fun vs H Q _ => ∃ (a wl sl : Addr) (fp : List Addr) (p : Uw30.Passage) (l : Addr) (plan : List Nat), vs = [.ref a, .ref l] ∧ PassAt CS CP H a wl sl fp p ∧ SqL K H l (nV plan) ∧ plan.length ≤ 1000 ∧ Says H Q (Uw30.step p (.check plan)).2
def spHowSoon : Sp := fun vs H Q _ => ∃ (a wl sl : Addr) (fp : List Addr) (p : Uw30.Passage) (d : Nat), vs = [.ref a, .int d] ∧ PassAt CS CP H a wl sl fp p ∧ Says H Q (Uw30.step p (.soonest d)).2
end
theorem outV_ok (z : Int) : outV (Uw30.ok z) = [.int z] := rfl
theorem outV_mk (z : Int) (l : List Nat) : outV ⟨z, l⟩ = .int z :: nV l := by
  show V.int z :: (l.map fun (n : Nat) => (n : Int)).map V.int = _
  rw [← nV_ints]
theorem sum_total (l : List Nat) : (l.map fun (n : Nat) => (n : Int)).sum = (Uw30.total l : Int) := by
  induction l with
  | nil => rfl
  | cons x l ih =>
    rw [List.map_cons, List.sum_cons, ih, total_cons, Int.natCast_add]
section
variable {P : Program} {w : World} {K : PySem.W.Frag} {mg : Str → Option Value} {base : Heap} {CS CP CB CD : Addr}
/-! ### the classes' inits -/
theorem scInitS : FnScope ["self", "least", "greatest", "row"] ["self", "least", "greatest", "row"] (defScope sInitS) := ⟨rfl, rfl, rfl, by decide +kernel, rfl, by decide +kernel, by decide +kernel⟩
theorem ok_initS {f : Addr} {fd : FuncData} (F : Fun K "__init__" "Sail.__init__" sInitS f fd) (T : Txt K mg CS CP CB CD) : FnOk P w K mg base CX0 1 f fd ["self", "least", "greatest", "row"] (spInitS CS) := by
  refine F.ok scInitS (fun vs H Q E h => ?_) (fun cdv A outer s H vs Q E hr h => ?_)
  · obtain ⟨x, dx, r, z, rfl, _⟩ := h
    rfl
  · obtain ⟨x, dx, r, z, rfl, hx, k⟩ := h
    refine ⟨_, pss_cons (ps_fld (pv 0) (pv 1) rfl) (pss_cons (ps_fld (pv 0) (pv 2) rfl) (pss_one (ps_fld (pv 0) (pv 3) rfl))), ?_⟩
    refine ⟨_, rfl, _, rfl, x, CS, dx, _, rfl, hx, T.clS, T.nS1, (by show 0 < 1000; decide), ?_⟩
    refine ⟨_, rfl, _, rfl, x, CS, dx, _, rfl, upd_same, T.clS, T.nS2, (by show 1 < 1000; decide), ?_⟩
    refine ⟨_, rfl, _, rfl, x, CS, dx, _, rfl, upd_same, T.clS, T.nS3, (by show 2 < 1000; decide), ?_⟩
    rw [upd_upd, upd_upd, sF_new]
    exact k
theorem scInitP : FnScope ["self", "change", "setting"] ["self", "change", "setting"] (defScope sInitP) := ⟨rfl, rfl, rfl, by decide +kernel, rfl, by decide +kernel, by decide +kernel⟩
theorem ok_initP {f : Addr} {fd : FuncData} (F : Fun K "__init__" "Passage.__init__" sInitP f fd) (T : Txt K mg CS CP CB CD) : FnOk P w K mg base CX0 1 f fd ["self", "change", "setting"] (spInitP CP) := by
  refine F.ok scInitP (fun vs H Q E h => ?_) (fun cdv A outer s H vs Q E hr h => ?_)
  · obtain ⟨x, dx, c, z, rfl, _⟩ := h
    rfl
  · obtain ⟨x, dx, c, z, rfl, hx, k⟩ := h
    refine ⟨_, pss_cons (ps_fld (pv 0) (pv 1) rfl) (pss_cons (ps_fld (pv 0) (pv 2) rfl) (pss_cons (ps_fld (pv 0) (pe_lst pa_nil) rfl) (pss_one (ps_fld (pv 0) (pe_lst pa_nil) rfl)))), ?_⟩
    refine ⟨_, rfl, _, rfl, x, CP, dx, _, rfl, hx, T.clP, T.nP1, (by show 0 < 1000; decide), ?_⟩
    refine ⟨_, rfl, _, rfl, x, CP, dx, _, rfl, upd_same, T.clP, T.nP2, (by show 1 < 1000; decide), ?_⟩
    rw [upd_upd]
    refine ⟨Nat.zero_le _, fun wl nw => ⟨_, rfl, x, CP, dx, _, rfl, same_upd nw _ _ upd_same, T.clP, T.nP3, (by show 2 < 1000; decide), ?_⟩⟩
    have xw : x ≠ wl := ne_of_none upd_same nw
    refine ⟨Nat.zero_le _, fun sl ns => ⟨_, rfl, x, CP, dx, _, rfl, same_upd ns _ _ upd_same, T.clP, T.nP4, (by show 3 < 1000; decide), ?_⟩⟩
    have xs : x ≠ sl := ne_of_none upd_same ns
    rw [pF_new]
    have hw : H wl = none := by rw [upd_ne (Ne.symm xw)] at nw; exact nw
    have ws : wl ≠ sl := by
      refine ne_of_none (o := .lst []) ?_ ns
      rw [upd_ne (Ne.symm xw)]
      exact upd_same
    have hs : H sl = none := by
      rw [upd_ne (Ne.symm xs), upd_ne (Ne.symm ws), upd_ne (Ne.symm xs)] at ns
      exact ns
    refine k _ wl sl hw hs ws upd_same ?_ ?_ fun b o e hb => ?_
    · rw [upd_ne (Ne.symm xw), upd_ne ws, upd_ne (Ne.symm xw)]
      exact upd_same
    · rw [upd_ne (Ne.symm xs)]
      exact upd_same
    · rw [upd_ne hb, upd_ne (ne_of_none e hs), upd_ne hb, upd_ne (ne_of_none e hw), upd_ne hb]
      exact e
theorem newPass {H : Hp} {a dx wl sl : Addr} {c s : Nat} (h1 : H a = some (.ins CP dx (pF c s wl sl))) (h2 : H wl = some (.lst [])) (h3 : H sl = some (.lst [])) (ws : wl ≠ sl) : PassAt CS CP H a wl sl [wl, sl] ⟨[], [], c, s⟩ :=
  ⟨⟨Nat.zero_le _, Nat.zero_le _, fun x hx => (by cases hx)⟩, ⟨dx, h1⟩, h2, ⟨[], h3, rfl, fun j x e => (by simp at e)⟩, ws, by simp, by simp⟩
theorem scInitD : FnScope ["self"] ["self"] (defScope sInitD) := ⟨rfl, rfl, rfl, by decide +kernel, rfl, by decide +kernel, by decide +kernel⟩
theorem ok_initD {f : Addr} {fd : FuncData} (F : Fun K "__init__" "Desk.__init__" sInitD f fd) (T : Txt K mg CS CP CB CD) (mP : Mak P w K mg base "Passage" CP 1 ["self", "change", "setting"] (spInitP CP)) : FnOk P w K mg base CX0 3 f fd ["self"] (spInitD CS CP CD) := by
  refine F.ok scInitD (fun vs H Q E h => ?_) (fun cdv A outer s H vs Q E hr h => ?_)
  · obtain ⟨x, dx, rfl, _⟩ := h
    rfl
  · obtain ⟨x, dx, rfl, hx, k⟩ := h
    refine ⟨_, pss_one (ps_fld (pv 0) (pe_mak mP hr (pa_cons pe_int (pa_cons pe_int pa_nil))) rfl), ?_⟩
    intro a da na nd ne
    refine ⟨a, da, 0, 0, rfl, upd_same, fun H1 wl sl nw ns ws h1 h2 h3 kp => ⟨rfl, ?_⟩⟩
    have s1 : Same H H1 := Same.made na nd kp
    refine ⟨_, rfl, x, CD, dx, _, rfl, s1 _ _ hx, T.clD, T.nD1, (by show 0 < 1000; decide), ?_⟩
    have hwn : H wl = none := (made_same na nd).free nw
    have hsn : H sl = none := (made_same na nd).free ns
    refine k _ a wl sl hwn hsn ⟨⟨dx, upd_same⟩, ?_⟩ fun b o e hb => ?_
    · have xa : x ≠ a := ne_of_none hx na
      exact newPass (by rw [upd_ne (Ne.symm xa)]; exact h1) (by rw [upd_ne (Ne.symm (ne_of_none hx hwn))]; exact h2) (by rw [upd_ne (Ne.symm (ne_of_none hx hsn))]; exact h3) ws
    · rw [upd_ne hb]
      exact s1 _ _ e
/-! ### is_sail -/
theorem scIsSail : FnScope ["least", "greatest", "row"] ["least", "greatest", "row"] (defScope (top 9)) := ⟨rfl, rfl, rfl, by decide +kernel, rfl, by decide +kernel, by decide +kernel⟩
theorem ok_isSail {f : Addr} {fd : FuncData} (F : Fun K "is_sail" "is_sail" (top 9) f fd) (T : Txt K mg CS CP CB CD) : FnOk P w K mg base CX0 1 f fd ["least", "greatest", "row"] (spIsSail K) := by
  refine F.ok scIsSail (fun vs H Q E h => ?_) (fun cdv A outer s H vs Q E hr h => ?_)
  · obtain ⟨lo, hi, l, row, rfl, _⟩ := h
    rfl
  · obtain ⟨lo, hi, l, row, rfl, hl, k⟩ := h
    obtain ⟨t1, g1⟩ := T.wind
    obtain ⟨t2, g2⟩ := T.row
    obtain ⟨t3, g3⟩ := T.far
    refine ⟨_, pss_cons (ps_if (PW.pt (pw_or (pt_cmpR op_gt (pv 1) (pe_glob rfl g1 (v := .int 40) ⟨_, rfl⟩) (nomark _)) (pw_or (pt_cmpR op_gt (pv 0) (pv 1) (nomark _))
        (pw_or1 (pt_not (pt_chain op_le op_le pe_int (pe_callB call_len_seq (by rfl) T.len PySem.boot_len (pa_cons (pv 2) pa_nil)) (pe_glob rfl g2 (v := .int 12) ⟨_, rfl⟩)))))))
        (pss_one (ps_ret pe_bl)) pss_nil)
      (pss_one (ps_ret (pe_cmpR op_le (pe_callB (cr_max rfl) (by rfl) T.max (by decide +kernel) (pa_cons (pv 2) pa_nil)) (pe_glob rfl g3 (v := .int 1000) ⟨_, rfl⟩) (nomark _)))), ?_⟩
    have no : (Uw30.WIND < hi ∨ hi < lo ∨ row = [] ∨ Uw30.DRIVES < row.length ∨ (row.all fun n => decide (n ≤ Uw30.FAR)) = false) → Q (.bl false) H := fun z => Qv k (congrArg V.bl (by unfold isSail; rw [decide_eq_true z]; rfl))
    refine ⟨_, rfl, _, _, rfl, rfl, _, rfl, ?_⟩
    by_cases c1 : (40 : Int) < hi
    · rw [decide_eq_true c1]
      exact iteT (iteT (no (.inl (by unfold Uw30.WIND; omega))))
    · rw [decide_eq_false c1]
      refine iteF ⟨_, rfl, _, rfl, _, _, rfl, rfl, _, rfl, ?_⟩
      by_cases c2 : (hi : Int) < lo
      · rw [decide_eq_true c2]
        exact iteT (iteT (no (.inr (.inl (by omega)))))
      · rw [decide_eq_false c2]
        refine iteF ⟨_, rfl, l, _, rfl, .inl hl, _, _, rfl, rfl, _, rfl, ?_⟩
        rw [nV_len]
        by_cases c3 : (1 : Int) ≤ row.length
        · rw [decide_eq_true c3]
          refine iteT ⟨_, _, rfl, rfl, _, rfl, ?_⟩
          by_cases c4 : (row.length : Int) ≤ 12
          · rw [decide_eq_true c4]
            refine iteF ⟨_, rfl, l, row.map fun (n : Nat) => (n : Int), rfl, by rw [← nV_ints]; exact hl, by rw [List.length_map]; omega, fun m m1 m2 => ⟨_, _, rfl, rfl, Qv k (congrArg V.bl ?_)⟩⟩
            unfold isSail
            apply Bool.eq_iff_iff.mpr
            rw [decide_eq_true_iff, Bool.not_eq_true', decide_eq_false_iff_not]
            constructor
            · rintro hm (z | z | z | z | z)
              · unfold Uw30.WIND at z; omega
              · omega
              · rw [z] at c3; simp at c3
              · unfold Uw30.DRIVES at z; omega
              · have : (row.all fun n => decide (n ≤ Uw30.FAR)) = true := List.all_eq_true.mpr fun n hn => decide_eq_true (by
                  have := m2 (n : Int) (List.mem_map.mpr ⟨n, hn, rfl⟩)
                  unfold Uw30.FAR
                  omega)
                rw [this] at z
                cases z
            · intro z
              obtain ⟨n, hn, e⟩ := List.mem_map.mp m1
              have : (row.all fun n => decide (n ≤ Uw30.FAR)) = true := by
                cases q : (row.all fun n => decide (n ≤ Uw30.FAR)) with
                | true => rfl
                | false => exact absurd (.inr (.inr (.inr (.inr q)))) z
              have := of_decide_eq_true (List.all_eq_true.mp this n hn)
              unfold Uw30.FAR at this
              omega
          · rw [decide_eq_false c4]
            exact iteT (no (.inr (.inr (.inr (.inl (by unfold Uw30.DRIVES; omega))))))
        · rw [decide_eq_false c3]
          refine iteF ⟨_, rfl, iteT (no (.inr (.inr (.inl ?_))))⟩
          exact List.length_eq_zero_iff.mp (by omega)
end
end Sc
namespace Sc
open PySem PySem.Spec PyProof.Rows L2
/-- nothing but a new list: the passage's own turn -/
theorem Turns.of {CS CP : Addr} {H : Hp} {Q : VK} {a wl sl : Addr} {fp : List Addr} {p : Uw30.Passage} {x : Uw30.Ans} {l : List V} (k : Turns CS CP H Q a wl sl fp (p, x)) (hP : PassAt CS CP H a wl sl fp p) (e : outV x = l) : ∀ D, H D = none → Q (.ref D) (upd H D (.lst l)) := fun D hD =>
  k _ fp D (hP.same (same_upd hD)) (fun b o q _ => same_upd hD b o q) (fun b hb => .inl hb) hD (by rw [upd_same, e])
section
variable {P : Program} {w : World} {K : PySem.W.Frag} {mg : Str → Option Value} {base : Heap} {CS CP CB CD : Addr}
/-! ### begins -/
theorem scBegins : FnScope ["desk", "change", "setting"] ["desk", "change", "setting"] (defScope (top 39)) := ⟨rfl, rfl, rfl, by decide +kernel, rfl, by decide +kernel, by decide +kernel⟩
theorem ok_begins {f : Addr} {fd : FuncData} (F : Fun K "begins" "begins" (top 39) f fd) (T : Txt K mg CS CP CB CD) (mP : Mak P w K mg base "Passage" CP 1 ["self", "change", "setting"] (spInitP CP)) : FnOk P w K mg base CX0 3 f fd ["desk", "change", "setting"] (spBegins CS CP CD) := by
  refine F.ok scBegins (fun vs H Q E h => ?_) (fun cdv A outer s H vs Q E hr h => ?_)
  · obtain ⟨d, a, wl, sl, fp, p, c, z, rfl, _⟩ := h
    rfl
  · obtain ⟨d, a, wl, sl, fp, p, c, z, rfl, ⟨⟨dd, hd⟩, hP⟩, k⟩ := h
    obtain ⟨t1, g1⟩ := T.far
    obtain ⟨t2, g2⟩ := T.right
    refine ⟨_, pss_cons (ps_if (pt_cmpR op_gt (pe_callB (call_max2 rfl) (by rfl) T.max (by decide +kernel) (pa_cons (pv 1) (pa_cons (pv 2) pa_nil))) (pe_glob rfl g1 (v := .int 1000) ⟨_, rfl⟩) (nomark _))
        (pss_one (ps_ret (pe_lst (pa_cons (pe_glob rfl g2 (v := .int (-1)) ⟨_, rfl⟩) pa_nil)))) pss_nil)
      (pss_cons (ps_fld (pv 0) (pe_mak mP hr (pa_cons (pv 1) (pa_cons (pv 2) pa_nil))) rfl)
      (pss_one (ps_ret (pe_lst (pa_cons pe_int pa_nil))))), ?_⟩
    refine ⟨_, rfl, _, rfl, _, _, rfl, _, _, rfl, rfl, _, rfl, ?_⟩
    have es : Uw30.step p (.begins c z) = if Uw30.FAR < c ∨ Uw30.FAR < z then (p, Uw30.ok (-1)) else (⟨[], [], c, z⟩, Uw30.ok 0) := rfl
    by_cases q : Uw30.FAR < c ∨ Uw30.FAR < z
    · rw [if_pos q] at es
      rw [es] at k
      have q2 : (1000 : Int) < (if (z : Int) > c then (z : Int) else c) := by
        unfold Uw30.FAR at q
        split <;> omega
      rw [decide_eq_true q2]
      refine iteT ⟨(by show 1 ≤ sizeLine; decide), fun D hD => ?_⟩
      exact k _ a wl sl fp D ⟨⟨dd, same_upd hD _ _ hd⟩, hP.same (same_upd hD)⟩ (fun b o e _ _ => same_upd hD b o e) (fun b hb => .inl hb) hD upd_same
    · rw [if_neg q] at es
      rw [es] at k
      have q2 : ¬ (1000 : Int) < (if (z : Int) > c then (z : Int) else c) := by
        unfold Uw30.FAR at q
        split <;> omega
      rw [decide_eq_false q2]
      refine iteF ⟨_, rfl, _, rfl, ?_⟩
      intro x dx nx nd ne
      refine ⟨x, dx, c, z, rfl, upd_same, fun H1 w1 s1 nw ns ws h1 h2 h3 kp => ⟨rfl, ?_⟩⟩
      have t1 : Same H H1 := Same.made nx nd kp
      have hwn : H w1 = none := (made_same nx nd).free nw
      have hsn : H s1 = none := (made_same nx nd).free ns
      refine ⟨_, rfl, d, CD, dd, _, rfl, t1 _ _ hd, T.clD, T.nD1, (by show 1 < 1000; decide), (by show 1 ≤ sizeLine; decide), fun D hD => ?_⟩
      rw [dF_put] at hD ⊢
      have hD1 : H1 D = none := by
        have c : D ≠ d := fun e => by rw [e, upd_same] at hD; cases hD
        rw [upd_ne c] at hD
        exact hD
      have dx' : d ≠ x := ne_of_none hd nx
      refine k _ x w1 s1 [w1, s1] D ⟨⟨dd, same_upd hD _ _ upd_same⟩, (newPass (dx := dx) ?_ ?_ ?_ ws).same (same_upd hD)⟩ (fun b o e hb _ => same_upd hD b o ?_) (fun b hb => .inr ?_) (t1.free hD1) upd_same
      · rw [upd_ne (Ne.symm dx')]
        exact h1
      · rw [upd_ne (Ne.symm (ne_of_none hd hwn))]
        exact h2
      · rw [upd_ne (Ne.symm (ne_of_none hd hsn))]
        exact h3
      · rw [upd_ne hb]
        exact t1 _ _ e
      · simp at hb
        rcases hb with rfl | rfl
        · exact hwn
        · exact hsn
/-! ### put_hour -/
theorem scHour : FnScope ["passage", "wind"] ["passage", "wind"] (defScope (top 40)) := ⟨rfl, rfl, rfl, by decide +kernel, rfl, by decide +kernel, by decide +kernel⟩
theorem ok_hour {f : Addr} {fd : FuncData} (F : Fun K "put_hour" "put_hour" (top 40) f fd) (T : Txt K mg CS CP CB CD) : FnOk P w K mg base CX0 1 f fd ["passage", "wind"] (spHour CS CP) := by
  refine F.ok scHour (fun vs H Q E h => ?_) (fun cdv A outer s H vs Q E hr h => ?_)
  · obtain ⟨a, wl, sl, fp, p, wd, rfl, _⟩ := h
    rfl
  · obtain ⟨a, wl, sl, fp, p, wd, rfl, hP, k⟩ := h
    obtain ⟨t1, g1⟩ := T.wind
    obtain ⟨t2, g2⟩ := T.right
    obtain ⟨t3, g3⟩ := T.hours
    obtain ⟨t4, g4⟩ := T.full
    refine ⟨_, pss_cons (ps_if (pt_cmpR op_gt (pv 1) (pe_glob rfl g1 (v := .int 40) ⟨_, rfl⟩) (nomark _)) (pss_one (ps_ret (pe_lst (pa_cons (pe_glob rfl g2 (v := .int (-1)) ⟨_, rfl⟩) pa_nil)))) pss_nil)
      (pss_cons (ps_if (pt_cmpR op_eq (pe_callB call_len_seq (by rfl) T.len PySem.boot_len (pa_cons (pe_fld (pv 0) rfl) pa_nil)) (pe_glob rfl g3 (v := .int 6) ⟨_, rfl⟩) (nomark _)) (pss_one (ps_ret (pe_lst (pa_cons (pe_glob rfl g4 (v := .int (-5)) ⟨_, rfl⟩) pa_nil)))) pss_nil)
      (pss_cons (ps_expr (pe_bm PySem.F.plainAttrs_list PySem.F.slot_list_append PySem.F.type_list_append mt_append (pe_fld (pv 0) rfl) (pa_cons (pv 1) pa_nil)))
      (pss_one (ps_ret (pe_lst (pa_cons (pe_op op_sub (pe_callB call_len_seq (by rfl) T.len PySem.boot_len (pa_cons (pe_fld (pv 0) rfl) pa_nil)) pe_int) pa_nil)))))), ?_⟩
    obtain ⟨dx, ho⟩ := hP.obj
    have es : Uw30.step p (.hour wd) = if Uw30.WIND < wd then (p, Uw30.ok (-1)) else if Uw30.HOURS ≤ p.winds.length then (p, Uw30.ok (-5)) else ({ p with winds := p.winds ++ [wd] }, Uw30.ok (p.winds.length : Nat)) := rfl
    refine ⟨_, rfl, _, _, rfl, rfl, _, rfl, ?_⟩
    by_cases c1 : (40 : Int) < wd
    · rw [if_pos (by unfold Uw30.WIND; omega)] at es
      rw [es] at k
      rw [decide_eq_true c1]
      exact iteT ⟨(by show 1 ≤ sizeLine; decide), Turns.of k hP rfl⟩
    · rw [if_neg (by unfold Uw30.WIND; omega)] at es
      rw [decide_eq_false c1]
      refine iteF ⟨_, rfl, a, CP, dx, _, _, rfl, ho, T.clP, T.nP3, pF_3 _ _ _ _, wl, _, rfl, .inl (SqL.of hP.winds), rfl, _, rfl, ?_⟩
      rw [nV_len, show V.int 6 = V.int ((6 : Nat) : Int) from rfl, eq_int]
      have hw := hP.good.hours
      by_cases c2 : p.winds.length = 6
      · rw [if_pos (by unfold Uw30.HOURS; omega)] at es
        rw [es] at k
        rw [decide_eq_true c2]
        exact iteT ⟨(by show 1 ≤ sizeLine; decide), Turns.of k hP rfl⟩
      · rw [if_neg (by unfold Uw30.HOURS; omega)] at es
        rw [es] at k
        rw [decide_eq_false c2]
        refine iteF ⟨_, rfl, a, CP, dx, _, _, rfl, ho, T.clP, T.nP3, pF_3 _ _ _ _, .inl ⟨rfl, _, SqL.of hP.winds⟩, _, rfl, wl, _, _, rfl, rfl, hP.winds, small1000 (by rw [nV_len]; omega), ?_⟩
        have en : nV p.winds ++ [V.int wd] = nV (p.winds ++ [wd]) := by rw [nV_append]; rfl
        rw [en]
        have aw : a ≠ wl := ne_of ho hP.winds (by intro z; cases z)
        refine ⟨_, rfl, a, CP, dx, _, _, rfl, (by rw [upd_ne aw]; exact ho), T.clP, T.nP3, pF_3 _ _ _ _, wl, _, rfl, .inl (SqL.of upd_same), _, _, rfl, rfl, (by show 1 ≤ sizeLine; decide), fun D hD => ?_⟩
        have hDw : D ≠ wl := fun e => by rw [e, upd_same] at hD; cases hD
        have hD0 : H D = none := by rw [upd_ne hDw] at hD; exact hD
        have hP' : PassAt CS CP (upd H wl (.lst (nV (p.winds ++ [wd])))) a wl sl fp { p with winds := p.winds ++ [wd] } := by
          obtain ⟨as, h3, h4, h5⟩ := hP.sails
          refine ⟨⟨by rw [List.length_append]; show p.winds.length + 1 ≤ 6; omega, hP.good.sails, hP.good.row⟩, ⟨dx, by rw [upd_ne aw]; exact ho⟩, upd_same, ⟨as, by rw [upd_ne (Ne.symm hP.ne)]; exact h3, h4, fun j x hx => ?_⟩, hP.ne, hP.mw, hP.ms⟩
          obtain ⟨c, hc, q⟩ := h5 j x hx
          refine ⟨c, hc, q.keep fun b o e z => ?_⟩
          have nb : b ≠ wl := z.elim (fun z => z.2.1) fun ⟨C, d, fs, z⟩ => ne_of e hP.winds (by rw [z]; intro y; cases y)
          rw [upd_ne nb]
          exact e
        refine k _ fp D (hP'.same (same_upd hD)) (fun b o e z => same_upd hD b o ?_) (fun b hb => .inl hb) hD0 ?_
        · have nb : b ≠ wl := z.elim (fun z y => z (y ▸ hP.mw)) fun ⟨C, d, fs, z⟩ => ne_of e hP.winds (by rw [z]; intro y; cases y)
          rw [upd_ne nb]
          exact e
        · rw [upd_same, nV_len, List.length_append, outV_ok]
          have e1 : (((p.winds.length + [wd].length : Nat) : Int)) - 1 = (p.winds.length : Int) := by
            show (((p.winds.length + 1 : Nat) : Int)) - 1 = _
            omega
          exact congrArg (fun z => some (HO.lst [V.int z])) e1
/-! ### put_sail -/
theorem scSail : FnScope ["passage", "wholes", "row", "least", "greatest"] ["passage", "wholes", "row"] (defScope (top 41)) := ⟨rfl, rfl, rfl, by decide +kernel, rfl, by decide +kernel, by decide +kernel⟩
theorem ok_sail {f : Addr} {fd : FuncData} (F : Fun K "put_sail" "put_sail" (top 41) f fd) (T : Txt K mg CS CP CB CD) (c1 : Cal P w K mg base "is_sail" 1 ["least", "greatest", "row"] (spIsSail K)) (mS : Mak P w K mg base "Sail" CS 1 ["self", "least", "greatest", "row"] (spInitS CS)) :
    FnOk P w K mg base CX0 3 f fd ["passage", "wholes", "row"] (spSail K CS CP) := by
  refine F.ok scSail (fun vs H Q E h => ?_) (fun cdv A outer s H vs Q E hr h => ?_)
  · obtain ⟨a, wl, sl, fp, p, x, y, lo, hi, row, rfl, _⟩ := h
    rfl
  · obtain ⟨a, wl, sl, fp, p, x, y, lo, hi, row, rfl, hP, hx, hy, k⟩ := h
    obtain ⟨t2, g2⟩ := T.right
    obtain ⟨t3, g3⟩ := T.sails
    obtain ⟨t4, g4⟩ := T.full
    refine ⟨_, pss_cons (ps_asg (pv 1) (pg_lst (by rfl) (pgs_cons (pg_name (i := 3) scSail.nd rfl (.inl rfl)) (pgs_cons (pg_name (i := 4) scSail.nd rfl (.inl rfl)) pgs_nil))))
      (pss_cons (ps_if (pt_not (pt_val (pe_cal c1 hr (pa_cons (pv 3) (pa_cons (pv 4) (pa_cons (pv 2) pa_nil)))))) (pss_one (ps_ret (pe_lst (pa_cons (pe_glob rfl g2 (v := .int (-1)) ⟨_, rfl⟩) pa_nil)))) pss_nil)
      (pss_cons (ps_if (pt_cmpR op_eq (pe_callB call_len_seq (by rfl) T.len PySem.boot_len (pa_cons (pe_fld (pv 0) rfl) pa_nil)) (pe_glob rfl g3 (v := .int 4) ⟨_, rfl⟩) (nomark _)) (pss_one (ps_ret (pe_lst (pa_cons (pe_glob rfl g4 (v := .int (-5)) ⟨_, rfl⟩) pa_nil)))) pss_nil)
      (pss_cons (ps_expr (pe_bm PySem.F.plainAttrs_list PySem.F.slot_list_append PySem.F.type_list_append mt_append (pe_fld (pv 0) rfl)
        (pa_cons (pe_mak mS hr (pa_cons (pv 3) (pa_cons (pv 4) (pa_cons (pe_callTy call_list_of (by rfl) T.list (by decide +kernel) (pa_cons (pv 2) pa_nil)) pa_nil)))) pa_nil)))
      (pss_one (ps_ret (pe_lst (pa_cons (pe_op op_sub (pe_callB call_len_seq (by rfl) T.len PySem.boot_len (pa_cons (pe_fld (pv 0) rfl) pa_nil)) pe_int) pa_nil))))))), ?_⟩
    obtain ⟨dx, ho⟩ := hP.obj
    have es : Uw30.step p (.sail lo hi row) = if Uw30.WIND < hi ∨ hi < lo ∨ row = [] ∨ Uw30.DRIVES < row.length ∨ (row.all fun n => decide (n ≤ Uw30.FAR)) = false then (p, Uw30.ok (-1)) else if Uw30.SAILS ≤ p.sails.length then (p, Uw30.ok (-5)) else
      ({ p with sails := p.sails ++ [⟨lo, hi, row⟩] }, Uw30.ok (p.sails.length : Nat)) := rfl
    refine ⟨_, rfl, x, _, rfl, hx, rfl, _, _, rfl, _, _, rfl, rfl, ?_⟩
    refine ⟨_, rfl, _, rfl, _, rfl, lo, hi, y, row, rfl, hy, _, rfl, ?_⟩
    unfold isSail
    by_cases q : Uw30.WIND < hi ∨ hi < lo ∨ row = [] ∨ Uw30.DRIVES < row.length ∨ (row.all fun n => decide (n ≤ Uw30.FAR)) = false
    · rw [if_pos q] at es
      rw [es] at k
      rw [decide_eq_true q]
      exact iteT ⟨(by show 1 ≤ sizeLine; decide), Turns.of k hP rfl⟩
    · rw [if_neg q] at es
      rw [decide_eq_false q]
      obtain ⟨as, h3, h4, h5⟩ := hP.sails
      refine iteF ⟨_, rfl, a, CP, dx, _, _, rfl, ho, T.clP, T.nP4, pF_4 _ _ _ _, sl, _, rfl, .inl (SqL.of h3), rfl, _, rfl, ?_⟩
      rw [List.length_map, h4, show V.int 4 = V.int ((4 : Nat) : Int) from rfl, eq_int]
      have hs := hP.good.sails
      by_cases c2 : p.sails.length = 4
      · rw [if_pos (by unfold Uw30.SAILS; omega)] at es
        rw [es] at k
        rw [decide_eq_true c2]
        exact iteT ⟨(by show 1 ≤ sizeLine; decide), Turns.of k hP rfl⟩
      · rw [if_neg (by unfold Uw30.SAILS; omega)] at es
        rw [es] at k
        rw [decide_eq_false c2]
        -- passage.sails.append(Sail(least, greatest, list(row)))
        refine iteF ⟨_, rfl, a, CP, dx, _, _, rfl, ho, T.clP, T.nP4, pF_4 _ _ _ _, .inl ⟨rfl, _, SqL.of h3⟩, _, rfl, _, rfl, _, rfl, y, _, rfl, .inl hy, fun r nr => ?_⟩
        have s1 := same_upd (o := .lst (nV row)) nr
        intro c dc nc nd ne
        refine ⟨c, dc, r, ⟨lo, hi, row⟩, rfl, upd_same, rfl, ?_⟩
        rw [upd_upd]
        have s2 := s1.trans (made_same (o := .ins CS dc (sF ⟨lo, hi, row⟩ r)) nc nd)
        have hc2 : (upd (upd (upd H r (.lst (nV row))) dc (.own c)) c (.ins CS dc (sF ⟨lo, hi, row⟩ r))) c = some (.ins CS dc (sF ⟨lo, hi, row⟩ r)) := upd_same
        have hr2 : (upd (upd (upd H r (.lst (nV row))) dc (.own c)) c (.ins CS dc (sF ⟨lo, hi, row⟩ r))) r = some (.lst (nV row)) := (made_same (o := .ins CS dc (sF ⟨lo, hi, row⟩ r)) nc nd) _ _ upd_same
        generalize upd (upd (upd H r (.lst (nV row))) dc (.own c)) c (.ins CS dc (sF ⟨lo, hi, row⟩ r)) = H2 at s2 hc2 hr2 ⊢
        have hP2 := hP.same s2
        refine ⟨sl, _, _, rfl, rfl, s2 _ _ h3, small1000 (by rw [List.length_map, h4]; omega), ?_⟩
        rw [ref_snoc]
        have asl : a ≠ sl := ne_of ho h3 (by intro z; cases z)
        have csl : c ≠ sl := ne_of hc2 (s2 _ _ h3) (by intro z; cases z)
        have rsl : r ≠ sl := Ne.symm (ne_of_none h3 nr)
        have rwl : r ≠ wl := Ne.symm (ne_of_none hP.winds nr)
        refine ⟨_, rfl, a, CP, dx, _, _, rfl, (by rw [upd_ne asl]; exact s2 _ _ ho), T.clP, T.nP4, pF_4 _ _ _ _, sl, _, rfl, .inl (SqL.of upd_same), _, _, rfl, rfl, (by show 1 ≤ sizeLine; decide), fun D hD => ?_⟩
        have hDs : D ≠ sl := fun e => by rw [e, upd_same] at hD; cases hD
        have hD2 : H2 D = none := by rw [upd_ne hDs] at hD; exact hD
        have hP' : PassAt CS CP (upd H2 sl (.lst ((as ++ [c]).map V.ref))) a wl sl (r :: fp) { p with sails := p.sails ++ [⟨lo, hi, row⟩] } := by
          refine ⟨⟨hP.good.hours, by rw [List.length_append]; show p.sails.length + 1 ≤ 4; omega, fun z hz => ?_⟩, ⟨dx, by rw [upd_ne asl]; exact s2 _ _ ho⟩, by rw [upd_ne hP.ne]; exact s2 _ _ hP.winds, ⟨as ++ [c], upd_same, by rw [List.length_append, List.length_append, h4]; rfl, fun j z hz => ?_⟩, hP.ne, List.mem_cons_of_mem _ hP.mw, List.mem_cons_of_mem _ hP.ms⟩
          · rcases List.mem_append.mp hz with hz | hz
            · exact hP.good.row z hz
            · have ez : z = ⟨lo, hi, row⟩ := by simpa using hz
              subst ez
              show 0 < row.length ∧ row.length ≤ 12
              refine ⟨Nat.pos_of_ne_zero fun e => q (.inr (.inr (.inl (List.length_eq_zero_iff.mp e)))), ?_⟩
              have : ¬ Uw30.DRIVES < row.length := fun e => q (.inr (.inr (.inr (.inl e))))
              unfold Uw30.DRIVES at this
              omega
          · by_cases hj : j < p.sails.length
            · rw [List.getElem?_append_left hj] at hz
              obtain ⟨c', hc', d', r', q1, q2, q3, q4, q5⟩ := h5 j z hz
              refine ⟨c', by rw [List.getElem?_append_left (by rw [h4]; exact hj)]; exact hc', d', r', ?_, ?_, List.mem_cons_of_mem _ q3, q4, q5⟩
              · rw [upd_ne (ne_of q1 h3 (by intro y; cases y))]
                exact s2 _ _ q1
              · rw [upd_ne q5]
                exact s2 _ _ q2
            · rw [List.getElem?_append_right (by omega)] at hz
              have hj0 : j - p.sails.length = 0 := by
                have := (List.getElem?_eq_some_iff.mp hz).1
                simp at this
                omega
              rw [hj0] at hz
              have ez : (⟨lo, hi, row⟩ : Uw30.Sail) = z := Option.some.inj hz
              subst ez
              refine ⟨c, by rw [List.getElem?_append_right (by rw [h4]; omega), h4, hj0]; rfl, dc, r, by rw [upd_ne csl]; exact hc2, by rw [upd_ne rsl]; exact hr2, List.mem_cons_self, rwl, rsl⟩
        refine k _ (r :: fp) D (hP'.same (same_upd hD)) (fun b o e z => same_upd hD b o ?_) (fun b hb => ?_) (s2.free hD2) ?_
        · have nb : b ≠ sl := z.elim (fun z y => z (y ▸ hP.ms)) fun ⟨C, d, fs, z⟩ => ne_of e h3 (by rw [z]; intro y; cases y)
          rw [upd_ne nb]
          exact s2 _ _ e
        · rcases List.mem_cons.mp hb with rfl | hb
          · exact .inr nr
          · exact .inl hb
        · rw [upd_same, List.length_map, List.length_append, h4, outV_ok]
          have e1 : (((p.sails.length + [c].length : Nat) : Int)) - 1 = (p.sails.length : Int) := by
            show (((p.sails.length + 1 : Nat) : Int)) - 1 = _
            omega
          exact congrArg (fun z => some (HO.lst [V.int z])) e1
end
end Sc
namespace Sc
open PySem PySem.Spec PyProof.Rows L2
theorem Says.of {H H1 : Hp} {Q : VK} {x : Uw30.Ans} {l : List V} (k : Says H Q x) (s : Same H H1) (e : outV x = l) : ∀ D, H1 D = none → Q (.ref D) (upd H1 D (.lst l)) := fun D hD =>
  k _ D (s.trans (same_upd hD)) (s.free hD) (by rw [upd_same, e])
theorem best_step (p : Uw30.Passage) : (Uw30.step p .best).2 = ⟨((bestFrom p p.winds p.bare).first : Nat), (bestFrom p p.winds p.bare).second :: (bestFrom p p.winds p.bare).many :: (bestFrom p p.winds p.bare).plan⟩ := by
  show (match p.best with
    | none => Uw30.ok (-6)
    | some b => ⟨(b.first : Nat), b.second :: b.many :: b.plan⟩) = _
  rw [best_eq]
section
variable {P : Program} {w : World} {K : PySem.W.Frag} {mg : Str → Option Value} {base : Heap} {CS CP CB CD : Addr}
/-! ### best -/
theorem scBest : FnScope ["passage", "found"] ["passage"] (defScope (top 42)) := ⟨rfl, rfl, rfl, by decide +kernel, rfl, by decide +kernel, by decide +kernel⟩
theorem ok_best {f : Addr} {fd : FuncData} (F : Fun K "best" "best" (top 42) f fd) (T : Txt K mg CS CP CB CD) (c1 : Cal P w K mg base "best_plan" 5 ["passage"] (spBestPlan CS CP CB)) : FnOk P w K mg base CX0 6 f fd ["passage"] (spBest CS CP) := by
  refine F.ok scBest (fun vs H Q E h => ?_) (fun cdv A outer s H vs Q E hr h => ?_)
  · obtain ⟨a, wl, sl, fp, p, rfl, _⟩ := h
    rfl
  · obtain ⟨a, wl, sl, fp, p, rfl, hP, k⟩ := h
    refine ⟨_, pss_cons (ps_set (i := 1) scBest.nd rfl (Or.inl rfl) (pe_cal c1 hr (pa_cons (pv 0) pa_nil)))
      (pss_one (ps_ret (pe_op op_cat (pe_lst (pa_cons (pe_fld (pv 1) rfl) (pa_cons (pe_fld (pv 1) rfl) (pa_cons (pe_fld (pv 1) rfl) pa_nil)))) (pe_fld (pv 1) rfl)))), ?_⟩
    refine ⟨_, rfl, a, wl, sl, fp, p, rfl, hP, fun H1 q s1 ⟨d1, l1, h1, h2⟩ => ?_⟩
    refine ⟨_, rfl, q, CB, d1, _, _, rfl, h1, T.clB, T.nB1, bF_1 _ _, _, rfl, q, CB, d1, _, _, rfl, h1, T.clB, T.nB2, bF_2 _ _, _, rfl, q, CB, d1, _, _, rfl, h1, T.clB, T.nB3, bF_3 _ _, (by show 3 ≤ sizeLine; decide), fun p1 n1 => ?_⟩
    have s2 := same_upd (o := .lst [V.int ((bestFrom p p.winds p.bare).first : Nat), V.int ((bestFrom p p.winds p.bare).second : Nat), V.int ((bestFrom p p.winds p.bare).many : Nat)]) n1
    refine ⟨_, rfl, q, CB, d1, _, _, rfl, s2 _ _ h1, T.clB, T.nB4, bF_4 _ _, p1, l1, _, _, rfl, rfl, upd_same, s2 _ _ h2, ?_, ?_⟩
    · rw [nV_len, bestFrom_plan]
      have := hP.good.hours
      have : (9 : Nat) ≤ sizeLine := by decide
      show 3 + p.winds.length ≤ sizeLine
      omega
    · refine k.of (s1.trans s2) ?_
      rw [best_step, outV_mk]
      rfl
/-! ### plain -/
theorem scPlainA : FnScope ["passage", "plan"] ["passage"] (defScope (top 43)) := ⟨rfl, rfl, rfl, by decide +kernel, rfl, by decide +kernel, by decide +kernel⟩
theorem ok_plainA {f : Addr} {fd : FuncData} (F : Fun K "plain" "plain" (top 43) f fd) (T : Txt K mg CS CP CB CD) (c1 : Cal P w K mg base "plain_plan" 5 ["passage"] (spPlain CS CP)) (c2 : Cal P w K mg base "gains_of" 4 ["passage", "plan"] (spGains K CS CP)) (c3 : Cal P w K mg base "changes_of" 3 ["passage", "plan"] (spChanges K CS CP)) :
    FnOk P w K mg base CX0 6 f fd ["passage"] (spPlainA CS CP) := by
  refine F.ok scPlainA (fun vs H Q E h => ?_) (fun cdv A outer s H vs Q E hr h => ?_)
  · obtain ⟨a, wl, sl, fp, p, rfl, _⟩ := h
    rfl
  · obtain ⟨a, wl, sl, fp, p, rfl, hP, k⟩ := h
    refine ⟨_, pss_cons (ps_set (i := 1) scPlainA.nd rfl (Or.inl rfl) (pe_cal c1 hr (pa_cons (pv 0) pa_nil)))
      (pss_one (ps_ret (pe_op op_cat (pe_lst (pa_cons (pe_callB (cr_sum rfl) (by rfl) T.sum (by decide +kernel) (pa_cons (pe_cal c2 hr (pa_cons (pv 0) (pa_cons (pv 1) pa_nil))) pa_nil)) (pa_cons (pe_cal c3 hr (pa_cons (pv 0) (pa_cons (pv 1) pa_nil))) pa_nil))) (pv 1)))), ?_⟩
    have pl : p.plain.length = p.winds.length := plain_len p p.winds p.bare
    refine ⟨_, rfl, a, wl, sl, fp, p, rfl, hP, fun H1 D s1 nD h1 => ?_⟩
    refine ⟨_, rfl, _, rfl, a, wl, sl, fp, p, D, p.plain, rfl, hP.same s1, SqL.of h1, pl, plain_le p p.winds p.bare, fun D2 n2 => ?_⟩
    have s2 := same_upd (o := .lst (nV (p.gains p.bare p.winds p.plain))) n2
    refine ⟨D2, _, rfl, SqL.of (by rw [← nV_ints]; exact upd_same), ?_⟩
    rw [sum_total]
    have s12 := s1.trans s2
    refine ⟨_, rfl, _, rfl, a, wl, sl, fp, p, D, p.plain, rfl, hP.same s12, SqL.of (s2 _ _ h1), (by show 2 ≤ sizeLine; decide), fun D3 n3 => ?_⟩
    have s3 := same_upd (o := .lst [V.int (Uw30.total (p.gains p.bare p.winds p.plain) : Nat), V.int (p.changes p.bare p.plain : Nat)]) n3
    refine ⟨_, rfl, D3, D, _, _, rfl, rfl, upd_same, s3 _ _ (s2 _ _ h1), ?_, ?_⟩
    · rw [nV_len, pl]
      have := hP.good.hours
      have : (9 : Nat) ≤ sizeLine := by decide
      show 2 + p.winds.length ≤ sizeLine
      omega
    · exact k.of (s12.trans s3) (outV_mk _ _)
/-! ### check -/
theorem scCheck : FnScope ["passage", "plan", "wrong", "gains"] ["passage", "plan"] (defScope (top 44)) := ⟨rfl, rfl, rfl, by decide +kernel, rfl, by decide +kernel, by decide +kernel⟩
theorem ok_check {f : Addr} {fd : FuncData} (F : Fun K "check" "check" (top 44) f fd) (T : Txt K mg CS CP CB CD) (c1 : Cal P w K mg base "is_plan" 2 ["passage", "plan"] (spIsPlan K CS CP)) (c2 : Cal P w K mg base "first_wrong" 3 ["passage", "plan"] (spWrong K CS CP))
    (c3 : Cal P w K mg base "gains_of" 4 ["passage", "plan"] (spGains K CS CP)) (c4 : Cal P w K mg base "changes_of" 3 ["passage", "plan"] (spChanges K CS CP)) : FnOk P w K mg base CX0 5 f fd ["passage", "plan"] (spCheck K CS CP) := by
  refine F.ok scCheck (fun vs H Q E h => ?_) (fun cdv A outer s H vs Q E hr h => ?_)
  · obtain ⟨a, wl, sl, fp, p, l, plan, rfl, _⟩ := h
    rfl
  · obtain ⟨a, wl, sl, fp, p, l, plan, rfl, hP, hl, hn, k⟩ := h
    obtain ⟨t2, g2⟩ := T.right
    obtain ⟨t4, g4⟩ := T.cannot
    refine ⟨_, pss_cons (ps_if (pt_not (pt_val (pe_cal c1 hr (pa_cons (pv 0) (pa_cons (pv 1) pa_nil))))) (pss_one (ps_ret (pe_lst (pa_cons (pe_glob rfl g2 (v := .int (-1)) ⟨_, rfl⟩) pa_nil)))) pss_nil)
      (pss_cons (ps_set (i := 2) scCheck.nd rfl (Or.inl rfl) (pe_cal c2 hr (pa_cons (pv 0) (pa_cons (pv 1) pa_nil))))
      (pss_cons (ps_if (pt_cmpR op_ge (pv 2) pe_int (nomark _)) (pss_one (ps_ret (pe_lst (pa_cons (pe_glob rfl g4 (v := .int (-6)) ⟨_, rfl⟩) (pa_cons (pv 2) pa_nil))))) pss_nil)
      (pss_cons (ps_set (i := 3) scCheck.nd rfl (Or.inl rfl) (pe_cal c3 hr (pa_cons (pv 0) (pa_cons (pv 1) pa_nil))))
      (pss_one (ps_ret (pe_op op_cat (pe_lst (pa_cons (pe_callB (cr_sum rfl) (by rfl) T.sum (by decide +kernel) (pa_cons (pv 3) pa_nil)) (pa_cons (pe_cal c4 hr (pa_cons (pv 0) (pa_cons (pv 1) pa_nil))) pa_nil))) (pv 3))))))), ?_⟩
    have es : Uw30.step p (.check plan) = if p.told plan = false then (p, Uw30.ok (-1)) else (p, match p.torn plan with
      | some h => ⟨-6, [h]⟩
      | none => ⟨(p.far plan : Nat), p.changes p.bare plan :: p.gains p.bare p.winds plan⟩) := rfl
    refine ⟨_, rfl, _, rfl, a, wl, sl, fp, p, l, plan, rfl, hP, hl, hn, fun H1 s1 => ⟨_, rfl, ?_⟩⟩
    cases ct : p.told plan with
    | false =>
      rw [if_pos ct] at es
      rw [es] at k
      exact iteT ⟨(by show 1 ≤ sizeLine; decide), k.of s1 rfl⟩
    | true =>
      rw [if_neg (by rw [ct]; exact Bool.noConfusion)] at es
      obtain ⟨t5, t6⟩ := (told_iff p plan).mp ct
      refine iteF ⟨_, rfl, _, rfl, a, wl, sl, fp, p, l, plan, rfl, hP.same s1, s1.seq hl, t5, t6, ?_⟩
      refine ⟨_, rfl, _, _, rfl, rfl, _, rfl, ?_⟩
      unfold wrongOf
      cases cn : p.torn plan with
      | some h =>
        rw [cn] at es
        rw [es] at k
        have q : (0 : Int) ≤ (h : Int) := by omega
        show if decide ((0 : Int) ≤ (h : Int)) = true then _ else _
        rw [decide_eq_true q]
        refine iteT ⟨_, rfl, (by show 2 ≤ sizeLine; decide), k.of s1 (outV_mk _ _)⟩
      | none =>
        rw [cn] at es
        rw [es] at k
        refine iteF ⟨_, rfl, _, rfl, a, wl, sl, fp, p, l, plan, rfl, hP.same s1, s1.seq hl, t5, t6, fun D2 n2 => ?_⟩
        have s2 := same_upd (o := .lst (nV (p.gains p.bare p.winds plan))) n2
        have s12 := s1.trans s2
        refine ⟨_, rfl, D2, _, rfl, SqL.of (by rw [← nV_ints]; exact upd_same), ?_⟩
        rw [sum_total]
        refine ⟨_, rfl, _, rfl, a, wl, sl, fp, p, l, plan, rfl, hP.same s12, s12.seq hl, (by show 2 ≤ sizeLine; decide), fun D3 n3 => ?_⟩
        have s3 := same_upd (o := .lst [V.int (Uw30.total (p.gains p.bare p.winds plan) : Nat), V.int (p.changes p.bare plan : Nat)]) n3
        refine ⟨_, rfl, D3, D2, _, _, rfl, rfl, upd_same, s3 _ _ upd_same, ?_, ?_⟩
        · rw [nV_len, gains_len p p.winds plan p.bare t5, t5]
          have := hP.good.hours
          have : (9 : Nat) ≤ sizeLine := by decide
          show 2 + p.winds.length ≤ sizeLine
          omega
        · exact k.of (s12.trans s3) (outV_mk _ _)
/-! ### how_soon -/
theorem scHowSoon : FnScope ["passage", "far", "found"] ["passage", "far"] (defScope (top 45)) := ⟨rfl, rfl, rfl, by decide +kernel, rfl, by decide +kernel, by decide +kernel⟩
theorem ok_howSoon {f : Addr} {fd : FuncData} (F : Fun K "how_soon" "how_soon" (top 45) f fd) (T : Txt K mg CS CP CB CD) (c1 : Cal P w K mg base "soonest" 5 ["passage", "far"] (spSoon CS CP)) : FnOk P w K mg base CX0 6 f fd ["passage", "far"] (spHowSoon CS CP) := by
  refine F.ok scHowSoon (fun vs H Q E h => ?_) (fun cdv A outer s H vs Q E hr h => ?_)
  · obtain ⟨a, wl, sl, fp, p, d, rfl, _⟩ := h
    rfl
  · obtain ⟨a, wl, sl, fp, p, d, rfl, hP, k⟩ := h
    obtain ⟨t1, g1⟩ := T.asked
    obtain ⟨t2, g2⟩ := T.right
    obtain ⟨t4, g4⟩ := T.cannot
    refine ⟨_, pss_cons (ps_if (pt_cmpR op_gt (pv 1) (pe_glob rfl g1 (v := .int 10000) ⟨_, rfl⟩) (nomark _)) (pss_one (ps_ret (pe_lst (pa_cons (pe_glob rfl g2 (v := .int (-1)) ⟨_, rfl⟩) pa_nil)))) pss_nil)
      (pss_cons (ps_set (i := 2) scHowSoon.nd rfl (Or.inl rfl) (pe_cal c1 hr (pa_cons (pv 0) (pa_cons (pv 1) pa_nil))))
      (pss_cons (ps_if (pt_cmpR op_lt (pv 2) pe_int (nomark _)) (pss_one (ps_ret (pe_lst (pa_cons (pe_glob rfl g4 (v := .int (-6)) ⟨_, rfl⟩) pa_nil)))) pss_nil)
      (pss_one (ps_ret (pe_lst (pa_cons (pv 2) pa_nil)))))), ?_⟩
    have es : Uw30.step p (.soonest d) = if Uw30.FAR * 10 < d then (p, Uw30.ok (-1)) else (p, match p.soonest d with
      | none => Uw30.ok (-6)
      | some h => Uw30.ok (h : Nat)) := rfl
    refine ⟨_, rfl, _, _, rfl, rfl, _, rfl, ?_⟩
    by_cases c : (10000 : Int) < d
    · rw [if_pos (by unfold Uw30.FAR; omega)] at es
      rw [es] at k
      rw [decide_eq_true c]
      exact iteT ⟨(by show 1 ≤ sizeLine; decide), k.of (Same.refl H) rfl⟩
    · rw [if_neg (by unfold Uw30.FAR; omega), soonest_eq] at es
      rw [decide_eq_false c]
      refine iteF ⟨_, rfl, _, rfl, a, wl, sl, fp, p, d, rfl, hP, fun H1 s1 => ?_⟩
      refine ⟨_, rfl, _, _, rfl, rfl, _, rfl, ?_⟩
      unfold soonOf
      cases cn : soonM p d with
      | none =>
        rw [cn] at es
        rw [es] at k
        exact iteT ⟨(by show 1 ≤ sizeLine; decide), k.of s1 rfl⟩
      | some h =>
        rw [cn] at es
        rw [es] at k
        have q : ¬ (h : Int) < 0 := by omega
        show if decide ((h : Int) < 0) = true then _ else _
        rw [decide_eq_false q]
        exact iteF ⟨_, rfl, (by show 1 ≤ sizeLine; decide), k.of s1 rfl⟩
end
end Sc
namespace Sc
open PySem PySem.Spec PyProof.Rows L2
section
variable (K : PySem.W.Frag) (CS CP CD : Addr)
def spAnswered : Sp := fun vs H Q _ => ∃ (d a wl sl : Addr) (fp : List Addr) (p : Uw30.Passage) (c : Uw30.Call) (x y : Addr), vs = [.ref d, .int (kindOf c), .ref x, .ref y] ∧ DeskAt CS CP CD H d a wl sl fp p ∧ SqL K H x (nV (wholesOf c)) ∧ SqL K H y (nV (rowOf c)) ∧ (rowOf c).length ≤ 1000 ∧
  Moves CS CP CD H Q d fp (Uw30.step p c)
def spAns : Sp := fun vs H Q _ => ∃ (a : Addr) (ns : List Int), vs = [.ref a] ∧ SqL K H a (ns.map V.int) ∧ ns.length ≤ 30000 ∧ PyUw30.answers_asked ns = true ∧
  ∀ (H' : Hp) (p : Addr), H' p = some (.lst ((PyUw30.answers ns).map V.int)) → Q (.ref p) H'
end
theorem kne {i j : Int} {A B : Prop} (h : ¬ i = j) (b : B) : if decide (V.int i = V.int j) = true then A else B := by
  rw [decide_eq_false (fun e => h (by injection e))]
  exact iteF b
theorem keq {i j : Int} {A B : Prop} (h : i = j) (a : A) : if decide (V.int i = V.int j) = true then A else B := by
  rw [decide_eq_true (congrArg V.int h)]
  exact iteT a
theorem check_fst (p : Uw30.Passage) (l : List Nat) : (Uw30.step p (.check l)).1 = p := by
  show (if p.told l = false then (p, Uw30.ok (-1)) else (p, match p.torn l with
      | some h => ⟨-6, [h]⟩
      | none => ⟨(p.far l : Nat), p.changes p.bare l :: p.gains p.bare p.winds l⟩) : Uw30.Passage × Uw30.Ans).1 = p
  split <;> rfl
theorem soonest_fst (p : Uw30.Passage) (d : Nat) : (Uw30.step p (.soonest d)).1 = p := by
  show (if Uw30.FAR * 10 < d then (p, Uw30.ok (-1)) else (p, match p.soonest d with
      | none => Uw30.ok (-6)
      | some h => Uw30.ok (h : Nat)) : Uw30.Passage × Uw30.Ans).1 = p
  split <;> rfl
theorem Moves.says {CS CP CD : Addr} {H : Hp} {Q : VK} {d a wl sl : Addr} {fp : List Addr} {p : Uw30.Passage} {y : Uw30.Passage × Uw30.Ans} (k : Moves CS CP CD H Q d fp y) (hD : DeskAt CS CP CD H d a wl sl fp p) (e : y.1 = p) : Says H Q y.2 := fun H' D s n h => by
  obtain ⟨⟨dd, hd⟩, hP⟩ := hD
  exact k H' a wl sl fp D ⟨⟨dd, s _ _ hd⟩, by rw [e]; exact hP.same s⟩ (fun b o q _ _ => s b o q) (fun b hb => .inl hb) n h
theorem Moves.turns {CS CP CD : Addr} {H : Hp} {Q : VK} {d a wl sl : Addr} {fp : List Addr} {p : Uw30.Passage} {y : Uw30.Passage × Uw30.Ans} (k : Moves CS CP CD H Q d fp y) (hD : DeskAt CS CP CD H d a wl sl fp p) : Turns CS CP H Q a wl sl fp y := fun H' fp' D hP' kp fr n h => by
  obtain ⟨⟨dd, hd⟩, hP⟩ := hD
  exact k H' a wl sl fp' D ⟨⟨dd, kp _ _ hd (.inr ⟨_, _, _, rfl⟩)⟩, hP'⟩ (fun b o q _ z => kp b o q (.inl z)) fr n h
section
variable {P : Program} {w : World} {K : PySem.W.Frag} {mg : Str → Option Value} {base : Heap} {CS CP CB CD : Addr}
/-! ### answered -/
theorem scAnswered : FnScope ["desk", "kind", "wholes", "row"] ["desk", "kind", "wholes", "row"] (defScope (top 46)) := ⟨rfl, rfl, rfl, by decide +kernel, rfl, by decide +kernel, by decide +kernel⟩
theorem ok_answered {f : Addr} {fd : FuncData} (F : Fun K "answered" "answered" (top 46) f fd) (T : Txt K mg CS CP CB CD) (c0 : Cal P w K mg base "begins" 3 ["desk", "change", "setting"] (spBegins CS CP CD)) (c1 : Cal P w K mg base "put_hour" 1 ["passage", "wind"] (spHour CS CP))
    (c2 : Cal P w K mg base "put_sail" 3 ["passage", "wholes", "row"] (spSail K CS CP)) (c3 : Cal P w K mg base "best" 6 ["passage"] (spBest CS CP)) (c4 : Cal P w K mg base "plain" 6 ["passage"] (spPlainA CS CP)) (c5 : Cal P w K mg base "check" 5 ["passage", "plan"] (spCheck K CS CP))
    (c6 : Cal P w K mg base "how_soon" 6 ["passage", "far"] (spHowSoon CS CP)) : FnOk P w K mg base CX0 7 f fd ["desk", "kind", "wholes", "row"] (spAnswered K CS CP CD) := by
  refine F.ok scAnswered (fun vs H Q E h => ?_) (fun cdv A outer s H vs Q E hr h => ?_)
  · obtain ⟨d, a, wl, sl, fp, p, c, x, y, rfl, _⟩ := h
    rfl
  · obtain ⟨d, a, wl, sl, fp, p, c, x, y, rfl, hD, hx, hy, hn, k⟩ := h
    refine ⟨_, pss_cons (ps_if (pt_cmpR op_eq (pv 1) pe_int (nomark _)) (pss_one (ps_ret (pe_cal c0 hr (pa_cons (pv 0) (pa_cons (pe_ix ix_list (pv 2) pe_int (fun _ _ => rfl)) (pa_cons (pe_ix ix_list (pv 2) pe_int (fun _ _ => rfl)) pa_nil)))))) pss_nil)
      (pss_cons (ps_if (pt_cmpR op_eq (pv 1) pe_int (nomark _)) (pss_one (ps_ret (pe_cal c1 hr (pa_cons (pe_fld (pv 0) rfl) (pa_cons (pe_ix ix_list (pv 2) pe_int (fun _ _ => rfl)) pa_nil))))) pss_nil)
      (pss_cons (ps_if (pt_cmpR op_eq (pv 1) pe_int (nomark _)) (pss_one (ps_ret (pe_cal c2 hr (pa_cons (pe_fld (pv 0) rfl) (pa_cons (pv 2) (pa_cons (pv 3) pa_nil)))))) pss_nil)
      (pss_cons (ps_if (pt_cmpR op_eq (pv 1) pe_int (nomark _)) (pss_one (ps_ret (pe_cal c3 hr (pa_cons (pe_fld (pv 0) rfl) pa_nil)))) pss_nil)
      (pss_cons (ps_if (pt_cmpR op_eq (pv 1) pe_int (nomark _)) (pss_one (ps_ret (pe_cal c4 hr (pa_cons (pe_fld (pv 0) rfl) pa_nil)))) pss_nil)
      (pss_cons (ps_if (pt_cmpR op_eq (pv 1) pe_int (nomark _)) (pss_one (ps_ret (pe_cal c5 hr (pa_cons (pe_fld (pv 0) rfl) (pa_cons (pv 3) pa_nil))))) pss_nil)
      (pss_one (ps_ret (pe_cal c6 hr (pa_cons (pe_fld (pv 0) rfl) (pa_cons (pe_ix ix_list (pv 2) pe_int (fun _ _ => rfl)) pa_nil)))))))))), ?_⟩
    obtain ⟨⟨dd, hd⟩, hP⟩ := id hD
    refine ⟨_, rfl, rfl, _, rfl, ?_⟩
    cases c with
    | begins c z =>
      refine keq rfl ⟨_, rfl, _, rfl, x, _, _, _, rfl, rfl, hx, at_of (j := 0) rfl rfl, _, rfl, x, _, _, _, rfl, rfl, hx, at_of (j := 1) rfl rfl, d, a, wl, sl, fp, p, c, z, rfl, hD, k⟩
    | hour wd =>
      refine kne (by simp [kindOf]) ⟨_, rfl, rfl, _, rfl, keq rfl ⟨_, rfl, d, CD, dd, _, _, rfl, hd, T.clD, T.nD1, dF_1 _, _, rfl, x, _, _, _, rfl, rfl, hx, at_of (j := 0) rfl rfl, a, wl, sl, fp, p, wd, rfl, hP, k.turns hD⟩⟩
    | sail lo hi l =>
      refine kne (by simp [kindOf]) ⟨_, rfl, rfl, _, rfl, kne (by simp [kindOf]) ⟨_, rfl, rfl, _, rfl, keq rfl ⟨_, rfl, d, CD, dd, _, _, rfl, hd, T.clD, T.nD1, dF_1 _, _, rfl, _, rfl, a, wl, sl, fp, p, x, y, lo, hi, l, rfl, hP, hx, hy, k.turns hD⟩⟩⟩
    | best =>
      refine kne (by simp [kindOf]) ⟨_, rfl, rfl, _, rfl, kne (by simp [kindOf]) ⟨_, rfl, rfl, _, rfl, kne (by simp [kindOf]) ⟨_, rfl, rfl, _, rfl, keq rfl ⟨_, rfl, d, CD, dd, _, _, rfl, hd, T.clD, T.nD1, dF_1 _, a, wl, sl, fp, p, rfl, hP, k.says hD rfl⟩⟩⟩⟩
    | plain =>
      refine kne (by simp [kindOf]) ⟨_, rfl, rfl, _, rfl, kne (by simp [kindOf]) ⟨_, rfl, rfl, _, rfl, kne (by simp [kindOf]) ⟨_, rfl, rfl, _, rfl, kne (by simp [kindOf]) ⟨_, rfl, rfl, _, rfl, keq rfl ⟨_, rfl, d, CD, dd, _, _, rfl, hd, T.clD, T.nD1, dF_1 _, a, wl, sl, fp, p, rfl, hP, k.says hD rfl⟩⟩⟩⟩⟩
    | check l =>
      refine kne (by simp [kindOf]) ⟨_, rfl, rfl, _, rfl, kne (by simp [kindOf]) ⟨_, rfl, rfl, _, rfl, kne (by simp [kindOf]) ⟨_, rfl, rfl, _, rfl, kne (by simp [kindOf]) ⟨_, rfl, rfl, _, rfl, kne (by simp [kindOf]) ⟨_, rfl, rfl, _, rfl, keq rfl ⟨_, rfl, d, CD, dd, _, _, rfl, hd, T.clD, T.nD1, dF_1 _, _, rfl,
        a, wl, sl, fp, p, y, l, rfl, hP, hy, hn, k.says hD (check_fst p l)⟩⟩⟩⟩⟩⟩
    | soonest z =>
      refine kne (by simp [kindOf]) ⟨_, rfl, rfl, _, rfl, kne (by simp [kindOf]) ⟨_, rfl, rfl, _, rfl, kne (by simp [kindOf]) ⟨_, rfl, rfl, _, rfl, kne (by simp [kindOf]) ⟨_, rfl, rfl, _, rfl, kne (by simp [kindOf]) ⟨_, rfl, rfl, _, rfl, kne (by simp [kindOf]) ⟨_, rfl, d, CD, dd, _, _, rfl, hd, T.clD, T.nD1, dF_1 _, _, rfl, x, _, _, _, rfl, rfl, hx, at_of (j := 0) rfl rfl,
        a, wl, sl, fp, p, z, rfl, hP, k.says hD (soonest_fst p z)⟩⟩⟩⟩⟩⟩
end
end Sc
namespace Sc
open PySem PySem.Spec PyProof.Rows L2
/-! ### no answer has more than nine numbers -/
theorem out_len {p : Uw30.Passage} (g : Good p) (c : Uw30.Call) : (Uw30Neutral.out (Uw30.step p c).2).length ≤ 9 := by
  have hw := g.hours
  have e : ∀ x : Uw30.Ans, (Uw30Neutral.out x).length = x.l.length + 1 := fun x => by
    unfold Uw30Neutral.out
    rw [List.length_cons, List.length_map]
  rw [e]
  cases c with
  | begins c z =>
    show ((if Uw30.FAR < c ∨ Uw30.FAR < z then (p, Uw30.ok (-1)) else (⟨[], [], c, z⟩, Uw30.ok 0) : Uw30.Passage × Uw30.Ans).2).l.length + 1 ≤ 9
    split <;> exact (by decide : 0 + 1 ≤ 9)
  | hour wd =>
    show ((if Uw30.WIND < wd then (p, Uw30.ok (-1)) else if Uw30.HOURS ≤ p.winds.length then (p, Uw30.ok (-5)) else ({ p with winds := p.winds ++ [wd] }, Uw30.ok (p.winds.length : Nat)) : Uw30.Passage × Uw30.Ans).2).l.length + 1 ≤ 9
    split
    · exact (by decide : 0 + 1 ≤ 9)
    · split <;> exact (by decide : 0 + 1 ≤ 9)
  | sail lo hi row =>
    show ((if Uw30.WIND < hi ∨ hi < lo ∨ row = [] ∨ Uw30.DRIVES < row.length ∨ (row.all fun n => decide (n ≤ Uw30.FAR)) = false then (p, Uw30.ok (-1)) else if Uw30.SAILS ≤ p.sails.length then (p, Uw30.ok (-5)) else
      ({ p with sails := p.sails ++ [⟨lo, hi, row⟩] }, Uw30.ok (p.sails.length : Nat)) : Uw30.Passage × Uw30.Ans).2).l.length + 1 ≤ 9
    split
    · exact (by decide : 0 + 1 ≤ 9)
    · split <;> exact (by decide : 0 + 1 ≤ 9)
  | best =>
    rw [best_step]
    show (bestFrom p p.winds p.bare).plan.length + 1 + 1 + 1 ≤ 9
    rw [bestFrom_plan]
    omega
  | plain =>
    show p.plain.length + 1 + 1 ≤ 9
    have : p.plain.length = p.winds.length := plain_len p p.winds p.bare
    omega
  | check l =>
    show ((if p.told l = false then (p, Uw30.ok (-1)) else (p, match p.torn l with
      | some h => ⟨-6, [h]⟩
      | none => ⟨(p.far l : Nat), p.changes p.bare l :: p.gains p.bare p.winds l⟩) : Uw30.Passage × Uw30.Ans).2).l.length + 1 ≤ 9
    cases ct : p.told l with
    | false => rw [if_pos rfl]; exact (by decide : 0 + 1 ≤ 9)
    | true =>
      rw [if_neg (by simp)]
      cases p.torn l with
      | some h => exact (by decide : 1 + 1 ≤ 9)
      | none =>
        show (p.gains p.bare p.winds l).length + 1 + 1 ≤ 9
        rw [gains_len p p.winds l p.bare ((told_iff p l).mp ct).1, ((told_iff p l).mp ct).1]
        omega
  | soonest d =>
    show ((if Uw30.FAR * 10 < d then (p, Uw30.ok (-1)) else (p, match p.soonest d with
      | none => Uw30.ok (-6)
      | some h => Uw30.ok (h : Nat)) : Uw30.Passage × Uw30.Ans).2).l.length + 1 ≤ 9
    split
    · exact (by decide : 0 + 1 ≤ 9)
    · cases p.soonest d <;> exact (by decide : 0 + 1 ≤ 9)
/-! ### the list of calls by places -/
theorem cut_mid {A B C : List V} {i j : Int} (hi : i = (A.length : Int)) (hj : j = ((A.length + B.length : Nat) : Int)) : cutV (A ++ (B ++ C)) (some i) (some j) = B := by
  subst hi hj
  unfold cutV
  rw [HT.sIx_nat, HT.sIx_nat]
  have e1 : min A.length (A ++ (B ++ C)).length = A.length := by rw [List.length_append]; omega
  have e2 : min (A.length + B.length) (A ++ (B ++ C)).length = A.length + B.length := by rw [List.length_append, List.length_append]; omega
  rw [e1, e2, List.drop_left, Nat.add_sub_cancel_left, List.take_left]
theorem mid_get {A C : List V} {x : V} {i : Int} (hi : i = (A.length : Int)) : atI (A ++ (x :: C)) i = some x := by
  refine at_of hi ?_
  rw [List.getElem?_append_right (Nat.le_refl _), Nat.sub_self]
  rfl
theorem tbl_get (c : Uw30.Call) : atI [V.int 2, .int 1, .int 2, .int 0, .int 0, .int 0, .int 1] ((kindOf c : Nat) : Int) = some (V.int ((wholesOf c).length : Nat)) := by
  cases c <;> exact atI_nat rfl
theorem ints_nV (l : List Nat) : (intsOf l).map V.int = nV l := (nV_ints l).symm
theorem row_no {c : Uw30.Call} (h : inV (V.int (kindOf c : Nat)) [V.int 2, V.int 5] = false) : tailOf c = [] ∧ rowOf c = [] := by
  cases c with
  | sail a b l => cases h
  | check l => cases h
  | begins => exact ⟨rfl, rfl⟩
  | hour => exact ⟨rfl, rfl⟩
  | best => exact ⟨rfl, rfl⟩
  | plain => exact ⟨rfl, rfl⟩
  | soonest => exact ⟨rfl, rfl⟩
theorem row_yes {c : Uw30.Call} (h : inV (V.int (kindOf c : Nat)) [V.int 2, V.int 5] = true) : tailOf c = ((rowOf c).length : Int) :: intsOf (rowOf c) := by
  cases c with
  | sail a b l => rfl
  | check l => rfl
  | begins => cases h
  | hour => cases h
  | best => cases h
  | plain => cases h
  | soonest => cases h
/-- the list that is handed in, untouched -/
def Prot (K : PySem.W.Frag) (H : Hp) (a : Addr) (xs : List V) (d q : Addr) (fp : List Addr) : Prop := (Rd H a (.lst xs) ∧ a ≠ d ∧ a ≠ q ∧ a ∉ fp) ∨ ∀ H' : Hp, SqL K H' a xs
theorem Prot.seq {K : PySem.W.Frag} {H : Hp} {a : Addr} {xs : List V} {d q : Addr} {fp : List Addr} (h : Prot K H a xs d q fp) : SqL K H a xs := h.elim (fun z => .inl z.1) fun z => z H
theorem Prot.keep {K : PySem.W.Frag} {H H' : Hp} {a : Addr} {xs : List V} {d q : Addr} {fp fp' : List Addr} (h : Prot K H a xs d q fp) (k : ∀ b o, H b = some o → b ≠ d → b ≠ q → b ∉ fp → H' b = some o) (f : ∀ b ∈ fp', b ∈ fp ∨ H b = none) : Prot K H' a xs d q fp' := by
  rcases h with ⟨r, h1, h2, h3⟩ | h
  · refine .inl ⟨?_, h1, h2, fun z => ?_⟩
    · rcases r with r | ⟨o, r⟩
      · exact .inl (k _ _ r h1 h2 h3)
      · exact .inr ⟨o, k _ _ r h1 h2 h3⟩
    · rcases f a z with y | y
      · exact h3 y
      · rcases r with r | ⟨o, r⟩
        · rw [r] at y; cases y
        · rw [r] at y; cases y
  · exact .inr h
section
variable {P : Program} {w : World} {K : PySem.W.Frag} {mg : Str → Option Value} {base : Heap} {CS CP CB CD : Addr}
/-- ahead of a turn: the calls that are left, the state -/
structure At (K : PySem.W.Frag) (CS CP CD : Addr) (cs : List Uw30.Call) (a d q : Addr) (done rest : List Uw30.Call) (p : Uw30.Passage) (Fd : List Int) (H : Hp) (pa wl sl : Addr) (fp : List Addr) : Prop where
  eq : cs = done ++ rest
  desk : DeskAt CS CP CD H d pa wl sl fp p
  found : H q = some (.lst (Fd.map V.int))
  nfp : q ∉ fp
  prot : Prot K H a ((cs.flatMap flat).map V.int) d q fp
  run : Fd ++ runOf p rest = runOf Uw30.init cs
  len : Fd.length + 10 * rest.length ≤ 600
theorem At.qd {cs done rest : List Uw30.Call} {a d q : Addr} {p : Uw30.Passage} {Fd : List Int} {H : Hp} {pa wl sl : Addr} {fp : List Addr} (h : At K CS CP CD cs a d q done rest p Fd H pa wl sl fp) : q ≠ d := by
  obtain ⟨⟨dd, hd⟩, _⟩ := h.desk
  exact ne_of h.found hd (by intro z; cases z)
theorem At.same {cs done rest : List Uw30.Call} {a d q : Addr} {p : Uw30.Passage} {Fd : List Int} {H H' : Hp} {pa wl sl : Addr} {fp : List Addr} (h : At K CS CP CD cs a d q done rest p Fd H pa wl sl fp) (s : Same H H') : At K CS CP CD cs a d q done rest p Fd H' pa wl sl fp := by
  obtain ⟨⟨dd, hd⟩, hP⟩ := h.desk
  exact ⟨h.eq, ⟨⟨dd, s _ _ hd⟩, hP.same s⟩, s _ _ h.found, h.nfp, h.prot.keep (fun b o e _ _ _ => s b o e) fun b hb => .inl hb, h.run, h.len⟩
/-- behind a turn -/
theorem At.step {cs done rest : List Uw30.Call} {c : Uw30.Call} {a d q : Addr} {p : Uw30.Passage} {Fd : List Int} {H H' : Hp} {pa wl sl pa' wl' sl' : Addr} {fp fp' : List Addr} (h : At K CS CP CD cs a d q done (c :: rest) p Fd H pa wl sl fp)
    (hD : DeskAt CS CP CD H' d pa' wl' sl' fp' (Uw30.step p c).1) (kp : ∀ b o, H b = some o → b ≠ d → b ∉ fp → H' b = some o) (fr : ∀ b ∈ fp', b ∈ fp ∨ H b = none) :
    At K CS CP CD cs a d q (done ++ [c]) rest (Uw30.step p c).1 (Fd ++ ((Uw30Neutral.out (Uw30.step p c).2).length : Int) :: Uw30Neutral.out (Uw30.step p c).2)
      (upd H' q (.lst ((Fd ++ ((Uw30Neutral.out (Uw30.step p c).2).length : Int) :: Uw30Neutral.out (Uw30.step p c).2).map V.int))) pa' wl' sl' fp' := by
  have hq' : H' q = some (.lst (Fd.map V.int)) := kp _ _ h.found h.qd h.nfp
  have nq : q ∉ fp' := fun z => by
    rcases fr q z with y | y
    · exact h.nfp y
    · rw [h.found] at y; cases y
  obtain ⟨⟨dd, hd⟩, hP⟩ := hD
  have qi : ∀ b o, H' b = some o → (b ∈ fp' ∨ ∃ C dx fs, o = HO.ins C dx fs) → b ≠ q := fun b o e z y => by
    rcases z with z | ⟨C, dx, fs, z⟩
    · exact nq (y ▸ z)
    · rw [y, hq'] at e
      cases e
      cases z
  have hg := h.desk.2.good
  refine ⟨by rw [h.eq, List.append_assoc]; rfl, ⟨⟨dd, ?_⟩, hP.keep fun b o e z => ?_⟩, upd_same, nq, ?_, ?_, ?_⟩
  · rw [upd_ne (qi _ _ hd (.inr ⟨_, _, _, rfl⟩))]
    exact hd
  · rw [upd_ne (qi b o e z)]
    exact e
  · exact h.prot.keep (fun b o e h1 h2 h3 => by rw [upd_ne h2]; exact kp b o e h1 h3) fr
  · rw [List.append_assoc]
    exact h.run
  · have h1 := out_len hg c
    have h2 := h.len
    rw [List.length_cons] at h2
    rw [List.length_append, List.length_cons]
    omega
/-! ### answers -/
abbrev nAns : List Str := ["calls", "desk", "found", "at", "kind", "end", "wholes", "row", "start", "numbers"]
theorem scAns : FnScope nAns ["calls"] (defScope (top 47)) := ⟨rfl, rfl, rfl, by decide +kernel, rfl, by decide +kernel, by decide +kernel⟩
theorem ok_ans {f : Addr} {fd : FuncData} (F : Fun K "answers" "answers" (top 47) f fd) (T : Txt K mg CS CP CB CD) (c1 : Cal P w K mg base "answered" 7 ["desk", "kind", "wholes", "row"] (spAnswered K CS CP CD)) (mD : Mak P w K mg base "Desk" CD 3 ["self"] (spInitD CS CP CD)) :
    FnOk P w K mg base CX0 8 f fd ["calls"] (spAns K) := by
  refine F.ok scAns (fun vs H Q E h => ?_) (fun cdv A outer s H vs Q E hr h => ?_)
  · obtain ⟨a, ns, rfl, _⟩ := h
    rfl
  · obtain ⟨a, ns, rfl, hS, hn, hask, k⟩ := h
    obtain ⟨aW, gW, hW⟩ := T.wholes
    obtain ⟨aR, gR, hR⟩ := T.withRow
    refine ⟨_, pss_cons (ps_set (i := 1) scAns.nd rfl (Or.inl rfl) (pe_mak0 mD hr))
      (pss_cons (ps_set (i := 2) scAns.nd rfl (Or.inl rfl) (pe_lst pa_nil))
      (pss_cons (ps_set (i := 3) scAns.nd rfl (Or.inl rfl) pe_int)
      (pss_cons (ps_while PassesOwn.never (pt_cmpR op_lt (pv 3) (pe_callB call_len_seq (by rfl) T.len PySem.boot_len (pa_cons (pv 0) pa_nil)) (nomark _))
        (pss_cons (ps_set (i := 4) scAns.nd rfl (Or.inl rfl) (pe_ix ix_list (pv 0) (pv 3) (fun _ _ => rfl)))
        (pss_cons (ps_set (i := 5) scAns.nd rfl (Or.inl rfl) (pe_op op_add (pe_op op_add (pv 3) pe_int) (pe_ix ix_tup (pe_glob rfl gW (v := .ref aW) rfl) (pv 4) (fun _ _ => rfl))))
        (pss_cons (ps_set (i := 6) scAns.nd rfl (Or.inl rfl) (pe_slice sl_list (pv 0) (po_some (pe_op op_add (pv 3) pe_int)) (po_some (pv 5))))
        (pss_cons (ps_set (i := 7) scAns.nd rfl (Or.inl rfl) (pe_lst pa_nil))
        (pss_cons (ps_if (pt_cmpR op_in_seq (pv 4) (pe_glob rfl gR (v := .ref aR) rfl) (by rfl))
          (pss_cons (ps_set (i := 8) scAns.nd rfl (Or.inl rfl) (pe_op op_add (pv 5) pe_int))
          (pss_cons (ps_set (i := 5) scAns.nd rfl (Or.inl rfl) (pe_op op_add (pv 8) (pe_ix ix_list (pv 0) (pv 5) (fun _ _ => rfl))))
          (pss_one (ps_set (i := 7) scAns.nd rfl (Or.inl rfl) (pe_slice sl_list (pv 0) (po_some (pv 8)) (po_some (pv 5))))))) pss_nil)
        (pss_cons (ps_set (i := 9) scAns.nd rfl (Or.inl rfl) (pe_cal c1 hr (pa_cons (pv 1) (pa_cons (pv 4) (pa_cons (pv 6) (pa_cons (pv 7) pa_nil))))))
        (pss_cons (ps_expr (pe_bm PySem.F.plainAttrs_list PySem.F.slot_list_append PySem.F.type_list_append mt_append (pv 2) (pa_cons (pe_callB call_len_seq (by rfl) T.len PySem.boot_len (pa_cons (pv 9) pa_nil)) pa_nil)))
        (pss_cons (ps_expr (pe_bm PySem.F.plainAttrs_list PySem.F.slot_list_extend PySem.F.type_list_extend mt_extend (pv 2) (pa_cons (pv 9) pa_nil)))
        (pss_one (ps_set (i := 3) scAns.nd rfl (Or.inl rfl) (pv 5))))))))))))
      (pss_one (ps_ret (pv 2)))))), ?_⟩
    obtain ⟨cs, l1, l2, l3, l4⟩ := asked_calls hask
    rw [l4] at k
    rw [l2] at hS
    clear l4 hask hn
    subst l2
    -- desk = Desk(); found = []; at = 0
    intro d dd nd ndd ne
    refine ⟨d, dd, rfl, upd_same, fun H1 pa wl sl nw ns hD kp => ⟨rfl, ?_⟩⟩
    have s1 : Same H H1 := Same.made nd ndd kp
    have nw0 : H wl = none := (made_same nd ndd).free nw
    have ns0 : H sl = none := (made_same nd ndd).free ns
    refine ⟨Nat.zero_le _, fun q nq => ?_⟩
    have s2 := same_upd (o := .lst []) nq
    have a0 : At K CS CP CD cs a d q [] cs Uw30.init [] (upd H1 q (.lst [])) pa wl sl [wl, sl] := by
      refine ⟨rfl, ⟨?_, hD.2.same s2⟩, upd_same, ?_, ?_, rfl, ?_⟩
      · obtain ⟨⟨dx, e⟩, _⟩ := hD
        exact ⟨dx, s2 _ _ e⟩
      · intro z
        simp at z
        rcases z with z | z
        · exact ne_of_none hD.2.winds nq z.symm
        · obtain ⟨as, e, _⟩ := hD.2.sails
          exact ne_of_none e nq z.symm
      · rcases hS with r | r
        · have tr : ∃ o, H a = some o := by
            rcases r with r | ⟨o, r⟩
            · exact ⟨_, r⟩
            · exact ⟨_, r⟩
          obtain ⟨o, ho⟩ := tr
          refine .inl ⟨?_, ne_of_none ho nd, ne_of_none (s1 _ _ ho) nq, fun z => ?_⟩
          · rcases r with r | ⟨o, r⟩
            · exact .inl (s2 _ _ (s1 _ _ r))
            · exact .inr ⟨o, s2 _ _ (s1 _ _ r)⟩
          · simp at z
            rcases z with z | z
            · exact ne_of_none ho nw0 z
            · exact ne_of_none ho ns0 z
        · exact .inr fun _ => .inr r
      · show 0 + 10 * cs.length ≤ 600
        omega
    refine ⟨fun m σ H' => ∃ (done rest : List Uw30.Call) (p : Uw30.Passage) (Fd : List Int) (pa wl sl : Addr) (fp : List Addr) (v4 v5 v6 v7 v8 v9 : Option V), m = rest.length ∧
        σ = [some (.ref a), some (.ref d), some (.ref q), some (.int ((done.flatMap flat).length : Nat)), v4, v5, v6, v7, v8, v9] ∧ At K CS CP CD cs a d q done rest p Fd H' pa wl sl fp,
      ⟨_, [], cs, Uw30.init, [], pa, wl, sl, [wl, sl], none, none, none, none, none, none, rfl, rfl, a0⟩, ?_⟩
    rintro m σ H2 ⟨done, rest, p, Fd, pa, wl, sl, fp, v4, v5, v6, v7, v8, v9, rfl, rfl, h⟩
    refine ⟨_, rfl, _, rfl, a, _, rfl, .inl h.prot.seq, _, _, rfl, rfl, _, rfl, ?_⟩
    rw [lt_int, List.length_map]
    have ecs : cs.flatMap flat = done.flatMap flat ++ rest.flatMap flat := by rw [h.eq, List.flatMap_append]
    cases rest with
    | nil =>
      rw [ecs, List.flatMap_nil, List.append_nil, decide_eq_false (Nat.lt_irrefl _)]
      refine iteF ⟨_, rfl, k _ q ?_⟩
      rw [h.found]
      have e := h.run
      rw [show runOf p [] = [] from rfl, List.append_nil] at e
      rw [e]
    | cons c rest =>
      have hlt : (done.flatMap flat).length < (cs.flatMap flat).length := by
        rw [ecs, List.length_append, List.flatMap_cons, List.length_append, flat, List.length_cons]
        omega
      rw [decide_eq_true hlt]
      have hcr : (rowOf c).length ≤ 20 := l3 c (by rw [h.eq]; exact List.mem_append_right _ List.mem_cons_self)
      -- the list by parts
      have eL : (cs.flatMap flat).map V.int = (done.flatMap flat).map V.int ++ (V.int (kindOf c : Nat) :: (nV (wholesOf c) ++ ((tailOf c).map V.int ++ (rest.flatMap flat).map V.int))) := by
        rw [ecs, List.map_append, List.flatMap_cons, List.map_append]
        show (done.flatMap flat).map V.int ++ ((V.int (kindOf c : Nat) :: ((intsOf (wholesOf c) ++ tailOf c).map V.int)) ++ (rest.flatMap flat).map V.int) = _
        rw [List.map_append, ints_nV, List.cons_append, List.append_assoc]
      have hs : ∀ H' : Hp, Same H2 H' → SqL K H' a ((done.flatMap flat).map V.int ++ (V.int (kindOf c : Nat) :: (nV (wholesOf c) ++ ((tailOf c).map V.int ++ (rest.flatMap flat).map V.int)))) := fun H' z => by
        have := (h.same z).prot.seq
        rw [eL] at this
        exact this
      have seq2 := hs H2 (Same.refl H2)
      have eN : (((done ++ [c]).flatMap flat).length : Int) = ((done.flatMap flat).length : Int) + 1 + ((wholesOf c).length : Int) + ((tailOf c).length : Int) := by
        rw [List.flatMap_append, List.length_append, List.flatMap_cons, List.flatMap_nil, List.append_nil, flat, List.length_cons, List.length_append]
        show ((_ + ((((wholesOf c).map _).length + _) + 1) : Nat) : Int) = _
        rw [List.length_map]
        omega
      refine iteT ⟨fun σ' H' => ∃ (p' : Uw30.Passage) (Fd : List Int) (pa wl sl : Addr) (fp : List Addr) (v4 v5 v6 v7 v8 v9 : Option V),
          σ' = [some (.ref a), some (.ref d), some (.ref q), some (.int (((done ++ [c]).flatMap flat).length : Nat)), v4, v5, v6, v7, v8, v9] ∧ At K CS CP CD cs a d q (done ++ [c]) rest p' Fd H' pa wl sl fp,
        fun σ' H' ⟨p', Fd, pa, wl, sl, fp, v4, v5, v6, v7, v8, v9, e, h'⟩ => ⟨rest.length, Nat.lt_succ_self _, _, rest, p', Fd, pa, wl, sl, fp, v4, v5, v6, v7, v8, v9, rfl, e, h'⟩, ?_⟩
      -- kind = calls[at]; end = at + 1 + WHOLES[kind]
      refine ⟨_, rfl, _, rfl, a, _, _, _, rfl, rfl, seq2, mid_get (by rw [List.length_map]), ?_⟩
      refine ⟨_, rfl, _, _, rfl, rfl, _, rfl, aW, _, _, _, rfl, rfl, hW _, tbl_get c, _, _, rfl, rfl, ?_⟩
      -- wholes = calls[at + 1:end]
      refine ⟨_, rfl, _, rfl, _, _, rfl, rfl, _, rfl, _, rfl, _, rfl, a, _, rfl, seq2, fun x nx => ?_⟩
      have eX : (done.flatMap flat).map V.int ++ (V.int (kindOf c : Nat) :: (nV (wholesOf c) ++ ((tailOf c).map V.int ++ (rest.flatMap flat).map V.int))) =
          ((done.flatMap flat).map V.int ++ [V.int (kindOf c : Nat)]) ++ (nV (wholesOf c) ++ ((tailOf c).map V.int ++ (rest.flatMap flat).map V.int)) := by
        rw [List.append_assoc]
        rfl
      have cX := cut_mid (A := (done.flatMap flat).map V.int ++ [V.int (kindOf c : Nat)]) (B := nV (wholesOf c)) (C := (tailOf c).map V.int ++ (rest.flatMap flat).map V.int) (i := ((done.flatMap flat).length : Int) + 1) (j := ((done.flatMap flat).length : Int) + 1 + ((wholesOf c).length : Int))
        (by rw [List.length_append, List.length_map]; rfl) (by rw [List.length_append, List.length_map, nV_len]; rfl)
      rw [← eX] at cX
      rw [cX]
      have sx := same_upd (o := .lst (nV (wholesOf c))) nx
      -- row = []
      refine ⟨Nat.zero_le _, fun y ny => ?_⟩
      have sy := same_upd (o := .lst []) ny
      have sxy := sx.trans sy
      refine ⟨_, rfl, aR, _, rfl, .inr (hR _), rfl, rfl, _, rfl, ?_⟩
      show if inV (V.int (kindOf c : Nat)) [V.int 2, V.int 5] = true then _ else _
      -- what stands in the list found, and behind it
      have eF : ∀ (l : List Int), (Fd.map V.int ++ [V.int ((l.map V.int).length : Nat)]) ++ l.map V.int = (Fd ++ (l.length : Int) :: l).map V.int := fun l => by
        rw [List.append_assoc, List.map_append, List.length_map]
        rfl
      cases cr : inV (V.int (kindOf c : Nat)) [V.int 2, V.int 5] with
      | false =>
        obtain ⟨r1, r2⟩ := row_no cr
        have h4 := h.same sxy
        refine iteF ⟨_, rfl, _, rfl, _, rfl, _, rfl, d, pa, wl, sl, fp, p, c, x, y, rfl, h4.desk, SqL.of (sy _ _ upd_same), SqL.of (by rw [r2]; exact upd_same), by omega, fun H5 pa' wl' sl' fp' D5 hD5 kp fr nD hout => ?_⟩
        have hq5 : H5 q = some (.lst (Fd.map V.int)) := kp _ _ h4.found h4.qd h4.nfp
        have hDq : D5 ≠ q := Ne.symm (ne_of_none h4.found nD)
        have z1 := out_len h.desk.2.good c
        have z2 := h.len
        have z3 : (1000 : Nat) ≤ sizeLine := by decide
        -- found.append(len(numbers)); found.extend(numbers); at = end
        refine ⟨_, rfl, .inl ⟨rfl, _, SqL.of hq5⟩, _, rfl, D5, _, rfl, .inl (SqL.of hout), q, _, _, rfl, rfl, hq5, small1000 (by rw [List.length_map]; omega), ?_⟩
        refine ⟨_, rfl, .inl ⟨rfl, _, SqL.of upd_same⟩, _, rfl, q, D5, _, _, rfl, rfl, upd_same, (by rw [upd_ne hDq]; exact hout), ?_, ?_⟩
        · rw [List.length_append, List.length_map, outV, List.length_map]
          show Fd.length + 1 + _ ≤ sizeLine
          omega
        · rw [upd_upd, outV, eF]
          refine ⟨_, rfl, _, _, pa', wl', sl', fp', some (.int (kindOf c : Nat)), some (.int (((done.flatMap flat).length : Int) + 1 + ((wholesOf c).length : Int))), some (.ref x), some (.ref y), v8, some (.ref D5), ?_, h4.step hD5 kp fr⟩
          rw [eN, r1]
          have e0 : ((done.flatMap flat).length : Int) + 1 + ((wholesOf c).length : Int) + (([] : List Int).length : Int) = ((done.flatMap flat).length : Int) + 1 + ((wholesOf c).length : Int) := Int.add_zero _
          rw [e0]
          rfl
      | true =>
        have r1 := row_yes cr
        have r3 : (tailOf c).map V.int = V.int ((rowOf c).length : Nat) :: nV (rowOf c) := by rw [r1, List.map_cons, ints_nV]
        rw [r3] at hs
        -- start = end + 1; end = start + calls[end]
        have eY : (done.flatMap flat).map V.int ++ (V.int (kindOf c : Nat) :: (nV (wholesOf c) ++ ((V.int ((rowOf c).length : Nat) :: nV (rowOf c)) ++ (rest.flatMap flat).map V.int))) =
            ((done.flatMap flat).map V.int ++ [V.int (kindOf c : Nat)] ++ nV (wholesOf c)) ++ (V.int ((rowOf c).length : Nat) :: (nV (rowOf c) ++ (rest.flatMap flat).map V.int)) := by
          simp
        have eZ : (done.flatMap flat).map V.int ++ (V.int (kindOf c : Nat) :: (nV (wholesOf c) ++ ((V.int ((rowOf c).length : Nat) :: nV (rowOf c)) ++ (rest.flatMap flat).map V.int))) =
            ((done.flatMap flat).map V.int ++ [V.int (kindOf c : Nat)] ++ nV (wholesOf c) ++ [V.int ((rowOf c).length : Nat)]) ++ (nV (rowOf c) ++ (rest.flatMap flat).map V.int) := by
          simp
        have seqY := hs _ sxy
        rw [eY] at seqY
        have lenA : (((done.flatMap flat).map V.int ++ [V.int (kindOf c : Nat)] ++ nV (wholesOf c)).length : Int) = ((done.flatMap flat).length : Int) + 1 + ((wholesOf c).length : Int) := by
          rw [List.length_append, List.length_append, List.length_map, nV_len]
          rfl
        refine iteT ⟨_, rfl, _, _, rfl, rfl, ?_⟩
        refine ⟨_, rfl, _, rfl, _, rfl, a, _, _, _, rfl, rfl, seqY, mid_get lenA.symm, _, _, rfl, rfl, ?_⟩
        -- row = calls[start:end]
        have seqZ := hs _ sxy
        rw [eZ] at seqZ
        refine ⟨_, rfl, _, rfl, _, rfl, _, rfl, _, rfl, a, _, rfl, seqZ, fun y2 ny2 => ?_⟩
        have cZ := cut_mid (A := (done.flatMap flat).map V.int ++ [V.int (kindOf c : Nat)] ++ nV (wholesOf c) ++ [V.int ((rowOf c).length : Nat)]) (B := nV (rowOf c)) (C := (rest.flatMap flat).map V.int)
          (i := ((done.flatMap flat).length : Int) + 1 + ((wholesOf c).length : Int) + 1) (j := ((done.flatMap flat).length : Int) + 1 + ((wholesOf c).length : Int) + 1 + ((rowOf c).length : Int))
          (by rw [List.length_append, Int.natCast_add, lenA]; rfl) (by rw [List.length_append, nV_len, Int.natCast_add, Int.natCast_add, lenA]; rfl)
        rw [cZ]
        have sz := same_upd (o := .lst (nV (rowOf c))) ny2
        have s4 := sxy.trans sz
        have h4 := h.same s4
        refine ⟨_, rfl, _, rfl, _, rfl, _, rfl, d, pa, wl, sl, fp, p, c, x, y2, rfl, h4.desk, SqL.of (sz _ _ (sy _ _ upd_same)), SqL.of upd_same, by omega, fun H5 pa' wl' sl' fp' D5 hD5 kp fr nD hout => ?_⟩
        have hq5 : H5 q = some (.lst (Fd.map V.int)) := kp _ _ h4.found h4.qd h4.nfp
        have hDq : D5 ≠ q := Ne.symm (ne_of_none h4.found nD)
        have z1 := out_len h.desk.2.good c
        have z2 := h.len
        have z3 : (1000 : Nat) ≤ sizeLine := by decide
        refine ⟨_, rfl, .inl ⟨rfl, _, SqL.of hq5⟩, _, rfl, D5, _, rfl, .inl (SqL.of hout), q, _, _, rfl, rfl, hq5, small1000 (by rw [List.length_map]; omega), ?_⟩
        refine ⟨_, rfl, .inl ⟨rfl, _, SqL.of upd_same⟩, _, rfl, q, D5, _, _, rfl, rfl, upd_same, (by rw [upd_ne hDq]; exact hout), ?_, ?_⟩
        · rw [List.length_append, List.length_map, outV, List.length_map]
          show Fd.length + 1 + _ ≤ sizeLine
          omega
        · rw [upd_upd, outV, eF]
          refine ⟨_, rfl, _, _, pa', wl', sl', fp', some (.int (kindOf c : Nat)), some (.int (((done.flatMap flat).length : Int) + 1 + ((wholesOf c).length : Int) + 1 + ((rowOf c).length : Int))), some (.ref x), some (.ref y2), some (.int (((done.flatMap flat).length : Int) + 1 + ((wholesOf c).length : Int) + 1)), some (.ref D5), ?_, h4.step hD5 kp fr⟩
          have eT : ((tailOf c).length : Int) = 1 + ((rowOf c).length : Int) := by
            have e1 : (intsOf (rowOf c)).length = (rowOf c).length := List.length_map _
            rw [r1, List.length_cons, e1]
            omega
          rw [eN, eT, ← Int.add_assoc]
          rfl
end
end Sc
namespace Sc
open PySem PySem.Spec PyProof.Rows L2
open PySem.W (Codec)
/-! ### the end: what the top has written; all promises joined -/
theorem cal_mk {P : Program} {w : World} {K : PySem.W.Frag} {mg : Str → Option Value} {base : Heap} {x : Str} {st : Stmt} {f : Addr} {fd : FuncData} {k : Nat} {ps : List Str} {sp : Sp} (F : Fun K x x st f fd) (ok : FnOk P w K mg base CX0 k f fd ps sp) (hm : mg x = some (.ref f)) (b : Binds K fd ps []) : Cal P w K mg base x k ps sp := ⟨f, fd, ok, hm, F.kp, b⟩
theorem all_mk {P : Program} {w : World} {K : PySem.W.Frag} {h : Heap} {mg : Str → Option Value} {fa CS CP CB CD f9 f10 f11 f12 f13 f14 f15 f16 f17 f18 f19 f20 f21 f22 f23 f24 f25 f26 f27 f28 f29 f30 f39 f40 f41 f42 f43 f44 f45 f46 f47 gCS gCP gCB gCD aW0 aW1 : Addr} (X : K.In h) (G : h.Ns mainGlobals mg) (hfa : mg "answers" = some (.ref fa))
    {od9 an9 od10 an10 od11 an11 od12 an12 od13 an13 od14 an14 od15 an15 od16 an16 od17 an17 od18 an18 od19 an19 od20 an20 od21 an21 od22 an22 od23 an23 od24 an24 od25 an25 od26 an26 od27 an27 od28 an28 od29 an29 od30 an30 od39 an39 od40 an40 od41 an41 od42 an42 od43 an43 od44 an44 od45 an45 od46 an46 od47 an47 odCS anCS odCP anCP odCB anCB odCD anCD odW0 odW1 : Option Addr} {sl9 sl10 sl11 sl12 sl13 sl14 sl15 sl16 sl17 sl18 sl19 sl20 sl21 sl22 sl23 sl24 sl25 sl26 sl27 sl28 sl29 sl30 sl39 sl40 sl41 sl42 sl43 sl44 sl45 sl46 sl47 slCS slCP slCB slCD slW0 slW1 : Array (Option Value)} {oc9 kV9 dc9 pm9 cd9 ct9 oc10 kV10 dc10 pm10 cd10 ct10 oc11 kV11 dc11 pm11 cd11 ct11 oc12 kV12 dc12 pm12 cd12 ct12 oc13 kV13 dc13 pm13 cd13 ct13 oc14 kV14 dc14 pm14 cd14 ct14 oc15 kV15 dc15 pm15 cd15 ct15 oc16 kV16 dc16 pm16 cd16 ct16 oc17 kV17 dc17 pm17 cd17 ct17 oc18 kV18 dc18 pm18 cd18 ct18 oc19 kV19 dc19 pm19 cd19 ct19 oc20 kV20 dc20 pm20 cd20 ct20 oc21 kV21 dc21 pm21 cd21 ct21 oc22 kV22 dc22 pm22 cd22 ct22 oc23 kV23 dc23 pm23 cd23 ct23 oc24 kV24 dc24 pm24 cd24 ct24 oc25 kV25 dc25 pm25 cd25 ct25 oc26 kV26 dc26 pm26 cd26 ct26 oc27 kV27 dc27 pm27 cd27 ct27 oc28 kV28 dc28 pm28 cd28 ct28 oc29 kV29 dc29 pm29 cd29 ct29 oc30 kV30 dc30 pm30 cd30 ct30 oc39 kV39 dc39 pm39 cd39 ct39 oc40 kV40 dc40 pm40 cd40 ct40 oc41 kV41 dc41 pm41 cd41 ct41 oc42 kV42 dc42 pm42 cd42 ct42 oc43 kV43 dc43 pm43 cd43 ct43 oc44 kV44 dc44 pm44 cd44 ct44 oc45 kV45 dc45 pm45 cd45 ct45 oc46 kV46 dc46 pm46 cd46 ct46 oc47 kV47 dc47 pm47 cd47 ct47 ocCS kVCS dcCS pmCS cdCS ctCS ocCP kVCP dcCP pmCP cdCP ctCP ocCB kVCB dcCB pmCB cdCB ctCB ocCD kVCD dcCD pmCD cdCD ctCD : Value} {t0 t1 t2 t3 t4 t5 t6 t7 t8 u0 u1 u2 u3 u4 u5 u6 u7 u8 : Tok} {nW0 nW1 : Nat}
    (aCS : PySem.W.nsIn K mainGlobals "Sail" = some (some (.ref CS)))
    (pgCS : PySem.W.plainGet K CS Str.empty = true)
    (hdCS : PySem.W.hasDictIn K CS = true)
    (poCS : PySem.W.plainOver K CS = true)
    (saCS : PySem.W.findIn K (.ref CS) "__setattr__" = some (some (.builtin "object.__setattr__")))
    (mkCS : PySem.W.makesIn K CS = true)
    (kcCS : PySem.W.keepIn K (.ref CS) = true)
    (nCS_least : PySem.W.findIn K (.ref CS) "least" = some none)
    (nCS_greatest : PySem.W.findIn K (.ref CS) "greatest" = some none)
    (nCS_row : PySem.W.findIn K (.ref CS) "row" = some none)
    (i0CS : PySem.W.findIn K (.ref CS) "__init__" = some (some (.ref gCS)))
    (i1CS : PySem.W.isFn K (.ref gCS) = true)
    (lCS : K.lookup gCS = some ⟨ocCS, odCS, .func (PySem.W.fnOf "__init__" "Sail.__init__" (defArgs sInitS) (defBody sInitS) (defScope sInitS) .none kVCS dcCS pmCS anCS cdCS ctCS), slCS⟩)
    (cCS : PySem.W.codeIn K cdCS "Sail.__init__" = true)
    (kCS : PySem.W.keepIn K (.ref gCS) = true)
    (aCP : PySem.W.nsIn K mainGlobals "Passage" = some (some (.ref CP)))
    (pgCP : PySem.W.plainGet K CP Str.empty = true)
    (hdCP : PySem.W.hasDictIn K CP = true)
    (poCP : PySem.W.plainOver K CP = true)
    (saCP : PySem.W.findIn K (.ref CP) "__setattr__" = some (some (.builtin "object.__setattr__")))
    (mkCP : PySem.W.makesIn K CP = true)
    (kcCP : PySem.W.keepIn K (.ref CP) = true)
    (nCP_change : PySem.W.findIn K (.ref CP) "change" = some none)
    (nCP_setting : PySem.W.findIn K (.ref CP) "setting" = some none)
    (nCP_winds : PySem.W.findIn K (.ref CP) "winds" = some none)
    (nCP_sails : PySem.W.findIn K (.ref CP) "sails" = some none)
    (i0CP : PySem.W.findIn K (.ref CP) "__init__" = some (some (.ref gCP)))
    (i1CP : PySem.W.isFn K (.ref gCP) = true)
    (lCP : K.lookup gCP = some ⟨ocCP, odCP, .func (PySem.W.fnOf "__init__" "Passage.__init__" (defArgs sInitP) (defBody sInitP) (defScope sInitP) .none kVCP dcCP pmCP anCP cdCP ctCP), slCP⟩)
    (cCP : PySem.W.codeIn K cdCP "Passage.__init__" = true)
    (kCP : PySem.W.keepIn K (.ref gCP) = true)
    (aCB : PySem.W.nsIn K mainGlobals "Best" = some (some (.ref CB)))
    (pgCB : PySem.W.plainGet K CB Str.empty = true)
    (hdCB : PySem.W.hasDictIn K CB = true)
    (poCB : PySem.W.plainOver K CB = true)
    (saCB : PySem.W.findIn K (.ref CB) "__setattr__" = some (some (.builtin "object.__setattr__")))
    (mkCB : PySem.W.makesIn K CB = true)
    (kcCB : PySem.W.keepIn K (.ref CB) = true)
    (nCB_far : PySem.W.findIn K (.ref CB) "far" = some none)
    (nCB_changes : PySem.W.findIn K (.ref CB) "changes" = some none)
    (nCB_many : PySem.W.findIn K (.ref CB) "many" = some none)
    (nCB_plan : PySem.W.findIn K (.ref CB) "plan" = some none)
    (i0CB : PySem.W.findIn K (.ref CB) "__init__" = some (some (.ref gCB)))
    (i1CB : PySem.W.isFn K (.ref gCB) = true)
    (lCB : K.lookup gCB = some ⟨ocCB, odCB, .func (PySem.W.fnOf "__init__" "Best.__init__" (defArgs sInitB) (defBody sInitB) (defScope sInitB) .none kVCB dcCB pmCB anCB cdCB ctCB), slCB⟩)
    (cCB : PySem.W.codeIn K cdCB "Best.__init__" = true)
    (kCB : PySem.W.keepIn K (.ref gCB) = true)
    (aCD : PySem.W.nsIn K mainGlobals "Desk" = some (some (.ref CD)))
    (pgCD : PySem.W.plainGet K CD Str.empty = true)
    (hdCD : PySem.W.hasDictIn K CD = true)
    (poCD : PySem.W.plainOver K CD = true)
    (saCD : PySem.W.findIn K (.ref CD) "__setattr__" = some (some (.builtin "object.__setattr__")))
    (mkCD : PySem.W.makesIn K CD = true)
    (kcCD : PySem.W.keepIn K (.ref CD) = true)
    (nCD_passage : PySem.W.findIn K (.ref CD) "passage" = some none)
    (i0CD : PySem.W.findIn K (.ref CD) "__init__" = some (some (.ref gCD)))
    (i1CD : PySem.W.isFn K (.ref gCD) = true)
    (lCD : K.lookup gCD = some ⟨ocCD, odCD, .func (PySem.W.fnOf "__init__" "Desk.__init__" (defArgs sInitD) (defBody sInitD) (defScope sInitD) .none kVCD dcCD pmCD anCD cdCD ctCD), slCD⟩)
    (cCD : PySem.W.codeIn K cdCD "Desk.__init__" = true)
    (kCD : PySem.W.keepIn K (.ref gCD) = true)
    (a9 : PySem.W.nsIn K mainGlobals "is_sail" = some (some (.ref f9)))
    (l9 : K.lookup f9 = some ⟨oc9, od9, .func (PySem.W.fnOf "is_sail" "is_sail" (defArgs (top 9)) (defBody (top 9)) (defScope (top 9)) .none kV9 dc9 pm9 an9 cd9 ct9), sl9⟩)
    (c9 : PySem.W.codeIn K cd9 "is_sail" = true)
    (k9 : PySem.W.keepIn K (.ref f9) = true)
    (a10 : PySem.W.nsIn K mainGlobals "none_of" = some (some (.ref f10)))
    (l10 : K.lookup f10 = some ⟨oc10, od10, .func (PySem.W.fnOf "none_of" "none_of" (defArgs (top 10)) (defBody (top 10)) (defScope (top 10)) .none kV10 dc10 pm10 an10 cd10 ct10), sl10⟩)
    (c10 : PySem.W.codeIn K cd10 "none_of" = true)
    (k10 : PySem.W.keepIn K (.ref f10) = true)
    (a11 : PySem.W.nsIn K mainGlobals "does_stand" = some (some (.ref f11)))
    (l11 : K.lookup f11 = some ⟨oc11, od11, .func (PySem.W.fnOf "does_stand" "does_stand" (defArgs (top 11)) (defBody (top 11)) (defScope (top 11)) .none kV11 dc11 pm11 an11 cd11 ct11), sl11⟩)
    (c11 : PySem.W.codeIn K cd11 "does_stand" = true)
    (k11 : PySem.W.keepIn K (.ref f11) = true)
    (a12 : PySem.W.nsIn K mainGlobals "driven" = some (some (.ref f12)))
    (l12 : K.lookup f12 = some ⟨oc12, od12, .func (PySem.W.fnOf "driven" "driven" (defArgs (top 12)) (defBody (top 12)) (defScope (top 12)) .none kV12 dc12 pm12 an12 cd12 ct12), sl12⟩)
    (c12 : PySem.W.codeIn K cd12 "driven" = true)
    (k12 : PySem.W.keepIn K (.ref f12) = true)
    (a13 : PySem.W.nsIn K mainGlobals "cost_of" = some (some (.ref f13)))
    (l13 : K.lookup f13 = some ⟨oc13, od13, .func (PySem.W.fnOf "cost_of" "cost_of" (defArgs (top 13)) (defBody (top 13)) (defScope (top 13)) .none kV13 dc13 pm13 an13 cd13 ct13), sl13⟩)
    (c13 : PySem.W.codeIn K cd13 "cost_of" = true)
    (k13 : PySem.W.keepIn K (.ref f13) = true)
    (a14 : PySem.W.nsIn K mainGlobals "gain" = some (some (.ref f14)))
    (l14 : K.lookup f14 = some ⟨oc14, od14, .func (PySem.W.fnOf "gain" "gain" (defArgs (top 14)) (defBody (top 14)) (defScope (top 14)) .none kV14 dc14 pm14 an14 cd14 ct14), sl14⟩)
    (c14 : PySem.W.codeIn K cd14 "gain" = true)
    (k14 : PySem.W.keepIn K (.ref f14) = true)
    (a15 : PySem.W.nsIn K mainGlobals "is_change" = some (some (.ref f15)))
    (l15 : K.lookup f15 = some ⟨oc15, od15, .func (PySem.W.fnOf "is_change" "is_change" (defArgs (top 15)) (defBody (top 15)) (defScope (top 15)) .none kV15 dc15 pm15 an15 cd15 ct15), sl15⟩)
    (c15 : PySem.W.codeIn K cd15 "is_change" = true)
    (k15 : PySem.W.keepIn K (.ref f15) = true)
    (a16 : PySem.W.nsIn K mainGlobals "may_be" = some (some (.ref f16)))
    (l16 : K.lookup f16 = some ⟨oc16, od16, .func (PySem.W.fnOf "may_be" "may_be" (defArgs (top 16)) (defBody (top 16)) (defScope (top 16)) .none kV16 dc16 pm16 an16 cd16 ct16), sl16⟩)
    (c16 : PySem.W.codeIn K cd16 "may_be" = true)
    (k16 : PySem.W.keepIn K (.ref f16) = true)
    (a17 : PySem.W.nsIn K mainGlobals "choices" = some (some (.ref f17)))
    (l17 : K.lookup f17 = some ⟨oc17, od17, .func (PySem.W.fnOf "choices" "choices" (defArgs (top 17)) (defBody (top 17)) (defScope (top 17)) .none kV17 dc17 pm17 an17 cd17 ct17), sl17⟩)
    (c17 : PySem.W.codeIn K cd17 "choices" = true)
    (k17 : PySem.W.keepIn K (.ref f17) = true)
    (a18 : PySem.W.nsIn K mainGlobals "is_better" = some (some (.ref f18)))
    (l18 : K.lookup f18 = some ⟨oc18, od18, .func (PySem.W.fnOf "is_better" "is_better" (defArgs (top 18)) (defBody (top 18)) (defScope (top 18)) .none kV18 dc18 pm18 an18 cd18 ct18), sl18⟩)
    (c18 : PySem.W.codeIn K cd18 "is_better" = true)
    (k18 : PySem.W.keepIn K (.ref f18) = true)
    (a19 : PySem.W.nsIn K mainGlobals "are_as_good" = some (some (.ref f19)))
    (l19 : K.lookup f19 = some ⟨oc19, od19, .func (PySem.W.fnOf "are_as_good" "are_as_good" (defArgs (top 19)) (defBody (top 19)) (defScope (top 19)) .none kV19 dc19 pm19 an19 cd19 ct19), sl19⟩)
    (c19 : PySem.W.codeIn K cd19 "are_as_good" = true)
    (k19 : PySem.W.keepIn K (.ref f19) = true)
    (a20 : PySem.W.nsIn K mainGlobals "with_choice" = some (some (.ref f20)))
    (l20 : K.lookup f20 = some ⟨oc20, od20, .func (PySem.W.fnOf "with_choice" "with_choice" (defArgs (top 20)) (defBody (top 20)) (defScope (top 20)) .none kV20 dc20 pm20 an20 cd20 ct20), sl20⟩)
    (c20 : PySem.W.codeIn K cd20 "with_choice" = true)
    (k20 : PySem.W.keepIn K (.ref f20) = true)
    (a21 : PySem.W.nsIn K mainGlobals "best_of" = some (some (.ref f21)))
    (l21 : K.lookup f21 = some ⟨oc21, od21, .func (PySem.W.fnOf "best_of" "best_of" (defArgs (top 21)) (defBody (top 21)) (defScope (top 21)) .none kV21 dc21 pm21 an21 cd21 ct21), sl21⟩)
    (c21 : PySem.W.codeIn K cd21 "best_of" = true)
    (k21 : PySem.W.keepIn K (.ref f21) = true)
    (a22 : PySem.W.nsIn K mainGlobals "best_plan" = some (some (.ref f22)))
    (l22 : K.lookup f22 = some ⟨oc22, od22, .func (PySem.W.fnOf "best_plan" "best_plan" (defArgs (top 22)) (defBody (top 22)) (defScope (top 22)) .none kV22 dc22 pm22 an22 cd22 ct22), sl22⟩)
    (c22 : PySem.W.codeIn K cd22 "best_plan" = true)
    (k22 : PySem.W.keepIn K (.ref f22) = true)
    (a23 : PySem.W.nsIn K mainGlobals "gains_of" = some (some (.ref f23)))
    (l23 : K.lookup f23 = some ⟨oc23, od23, .func (PySem.W.fnOf "gains_of" "gains_of" (defArgs (top 23)) (defBody (top 23)) (defScope (top 23)) .none kV23 dc23 pm23 an23 cd23 ct23), sl23⟩)
    (c23 : PySem.W.codeIn K cd23 "gains_of" = true)
    (k23 : PySem.W.keepIn K (.ref f23) = true)
    (a24 : PySem.W.nsIn K mainGlobals "changes_of" = some (some (.ref f24)))
    (l24 : K.lookup f24 = some ⟨oc24, od24, .func (PySem.W.fnOf "changes_of" "changes_of" (defArgs (top 24)) (defBody (top 24)) (defScope (top 24)) .none kV24 dc24 pm24 an24 cd24 ct24), sl24⟩)
    (c24 : PySem.W.codeIn K cd24 "changes_of" = true)
    (k24 : PySem.W.keepIn K (.ref f24) = true)
    (a25 : PySem.W.nsIn K mainGlobals "plain_choice" = some (some (.ref f25)))
    (l25 : K.lookup f25 = some ⟨oc25, od25, .func (PySem.W.fnOf "plain_choice" "plain_choice" (defArgs (top 25)) (defBody (top 25)) (defScope (top 25)) .none kV25 dc25 pm25 an25 cd25 ct25), sl25⟩)
    (c25 : PySem.W.codeIn K cd25 "plain_choice" = true)
    (k25 : PySem.W.keepIn K (.ref f25) = true)
    (a26 : PySem.W.nsIn K mainGlobals "plain_plan" = some (some (.ref f26)))
    (l26 : K.lookup f26 = some ⟨oc26, od26, .func (PySem.W.fnOf "plain_plan" "plain_plan" (defArgs (top 26)) (defBody (top 26)) (defScope (top 26)) .none kV26 dc26 pm26 an26 cd26 ct26), sl26⟩)
    (c26 : PySem.W.codeIn K cd26 "plain_plan" = true)
    (k26 : PySem.W.keepIn K (.ref f26) = true)
    (a27 : PySem.W.nsIn K mainGlobals "is_plan" = some (some (.ref f27)))
    (l27 : K.lookup f27 = some ⟨oc27, od27, .func (PySem.W.fnOf "is_plan" "is_plan" (defArgs (top 27)) (defBody (top 27)) (defScope (top 27)) .none kV27 dc27 pm27 an27 cd27 ct27), sl27⟩)
    (c27 : PySem.W.codeIn K cd27 "is_plan" = true)
    (k27 : PySem.W.keepIn K (.ref f27) = true)
    (a28 : PySem.W.nsIn K mainGlobals "first_wrong" = some (some (.ref f28)))
    (l28 : K.lookup f28 = some ⟨oc28, od28, .func (PySem.W.fnOf "first_wrong" "first_wrong" (defArgs (top 28)) (defBody (top 28)) (defScope (top 28)) .none kV28 dc28 pm28 an28 cd28 ct28), sl28⟩)
    (c28 : PySem.W.codeIn K cd28 "first_wrong" = true)
    (k28 : PySem.W.keepIn K (.ref f28) = true)
    (a29 : PySem.W.nsIn K mainGlobals "farther" = some (some (.ref f29)))
    (l29 : K.lookup f29 = some ⟨oc29, od29, .func (PySem.W.fnOf "farther" "farther" (defArgs (top 29)) (defBody (top 29)) (defScope (top 29)) .none kV29 dc29 pm29 an29 cd29 ct29), sl29⟩)
    (c29 : PySem.W.codeIn K cd29 "farther" = true)
    (k29 : PySem.W.keepIn K (.ref f29) = true)
    (a30 : PySem.W.nsIn K mainGlobals "soonest" = some (some (.ref f30)))
    (l30 : K.lookup f30 = some ⟨oc30, od30, .func (PySem.W.fnOf "soonest" "soonest" (defArgs (top 30)) (defBody (top 30)) (defScope (top 30)) .none kV30 dc30 pm30 an30 cd30 ct30), sl30⟩)
    (c30 : PySem.W.codeIn K cd30 "soonest" = true)
    (k30 : PySem.W.keepIn K (.ref f30) = true)
    (a39 : PySem.W.nsIn K mainGlobals "begins" = some (some (.ref f39)))
    (l39 : K.lookup f39 = some ⟨oc39, od39, .func (PySem.W.fnOf "begins" "begins" (defArgs (top 39)) (defBody (top 39)) (defScope (top 39)) .none kV39 dc39 pm39 an39 cd39 ct39), sl39⟩)
    (c39 : PySem.W.codeIn K cd39 "begins" = true)
    (k39 : PySem.W.keepIn K (.ref f39) = true)
    (a40 : PySem.W.nsIn K mainGlobals "put_hour" = some (some (.ref f40)))
    (l40 : K.lookup f40 = some ⟨oc40, od40, .func (PySem.W.fnOf "put_hour" "put_hour" (defArgs (top 40)) (defBody (top 40)) (defScope (top 40)) .none kV40 dc40 pm40 an40 cd40 ct40), sl40⟩)
    (c40 : PySem.W.codeIn K cd40 "put_hour" = true)
    (k40 : PySem.W.keepIn K (.ref f40) = true)
    (a41 : PySem.W.nsIn K mainGlobals "put_sail" = some (some (.ref f41)))
    (l41 : K.lookup f41 = some ⟨oc41, od41, .func (PySem.W.fnOf "put_sail" "put_sail" (defArgs (top 41)) (defBody (top 41)) (defScope (top 41)) .none kV41 dc41 pm41 an41 cd41 ct41), sl41⟩)
    (c41 : PySem.W.codeIn K cd41 "put_sail" = true)
    (k41 : PySem.W.keepIn K (.ref f41) = true)
    (a42 : PySem.W.nsIn K mainGlobals "best" = some (some (.ref f42)))
    (l42 : K.lookup f42 = some ⟨oc42, od42, .func (PySem.W.fnOf "best" "best" (defArgs (top 42)) (defBody (top 42)) (defScope (top 42)) .none kV42 dc42 pm42 an42 cd42 ct42), sl42⟩)
    (c42 : PySem.W.codeIn K cd42 "best" = true)
    (k42 : PySem.W.keepIn K (.ref f42) = true)
    (a43 : PySem.W.nsIn K mainGlobals "plain" = some (some (.ref f43)))
    (l43 : K.lookup f43 = some ⟨oc43, od43, .func (PySem.W.fnOf "plain" "plain" (defArgs (top 43)) (defBody (top 43)) (defScope (top 43)) .none kV43 dc43 pm43 an43 cd43 ct43), sl43⟩)
    (c43 : PySem.W.codeIn K cd43 "plain" = true)
    (k43 : PySem.W.keepIn K (.ref f43) = true)
    (a44 : PySem.W.nsIn K mainGlobals "check" = some (some (.ref f44)))
    (l44 : K.lookup f44 = some ⟨oc44, od44, .func (PySem.W.fnOf "check" "check" (defArgs (top 44)) (defBody (top 44)) (defScope (top 44)) .none kV44 dc44 pm44 an44 cd44 ct44), sl44⟩)
    (c44 : PySem.W.codeIn K cd44 "check" = true)
    (k44 : PySem.W.keepIn K (.ref f44) = true)
    (a45 : PySem.W.nsIn K mainGlobals "how_soon" = some (some (.ref f45)))
    (l45 : K.lookup f45 = some ⟨oc45, od45, .func (PySem.W.fnOf "how_soon" "how_soon" (defArgs (top 45)) (defBody (top 45)) (defScope (top 45)) .none kV45 dc45 pm45 an45 cd45 ct45), sl45⟩)
    (c45 : PySem.W.codeIn K cd45 "how_soon" = true)
    (k45 : PySem.W.keepIn K (.ref f45) = true)
    (a46 : PySem.W.nsIn K mainGlobals "answered" = some (some (.ref f46)))
    (l46 : K.lookup f46 = some ⟨oc46, od46, .func (PySem.W.fnOf "answered" "answered" (defArgs (top 46)) (defBody (top 46)) (defScope (top 46)) .none kV46 dc46 pm46 an46 cd46 ct46), sl46⟩)
    (c46 : PySem.W.codeIn K cd46 "answered" = true)
    (k46 : PySem.W.keepIn K (.ref f46) = true)
    (a47 : PySem.W.nsIn K mainGlobals "answers" = some (some (.ref f47)))
    (l47 : K.lookup f47 = some ⟨oc47, od47, .func (PySem.W.fnOf "answers" "answers" (defArgs (top 47)) (defBody (top 47)) (defScope (top 47)) .none kV47 dc47 pm47 an47 cd47 ct47), sl47⟩)
    (c47 : PySem.W.codeIn K cd47 "answers" = true)
    (k47 : PySem.W.keepIn K (.ref f47) = true)
    (b_len : PySem.W.nsIn K mainGlobals "len" = some none)
    (b_max : PySem.W.nsIn K mainGlobals "max" = some none)
    (b_min : PySem.W.nsIn K mainGlobals "min" = some none)
    (b_int : PySem.W.nsIn K mainGlobals "int" = some none)
    (b_range : PySem.W.nsIn K mainGlobals "range" = some none)
    (b_sum : PySem.W.nsIn K mainGlobals "sum" = some none)
    (b_list : PySem.W.nsIn K mainGlobals "list" = some none)
    (q_MOST_HOURS : PySem.W.nsIn K mainGlobals "MOST_HOURS" = some (some (.int 6 t0)))
    (q_MOST_SAILS : PySem.W.nsIn K mainGlobals "MOST_SAILS" = some (some (.int 4 t1)))
    (q_MOST_WIND : PySem.W.nsIn K mainGlobals "MOST_WIND" = some (some (.int 40 t2)))
    (q_MOST_ROW : PySem.W.nsIn K mainGlobals "MOST_ROW" = some (some (.int 12 t3)))
    (q_MOST_FAR : PySem.W.nsIn K mainGlobals "MOST_FAR" = some (some (.int 1000 t4)))
    (q_NOT_RIGHT : PySem.W.nsIn K mainGlobals "NOT_RIGHT" = some (some (.int (-1) t5)))
    (q_FULL : PySem.W.nsIn K mainGlobals "FULL" = some (some (.int (-5) t6)))
    (q_CANNOT : PySem.W.nsIn K mainGlobals "CANNOT" = some (some (.int (-6) t7)))
    (q_MOST_ASKED : PySem.W.nsIn K mainGlobals "MOST_ASKED" = some (some (.int 10000 t8)))
    (w_WHOLES : PySem.W.nsIn K mainGlobals "WHOLES" = some (some (.ref aW0)))
    (v_WHOLES : K.lookup aW0 = some ⟨.type "tuple", odW0, .seq #[.int 2 u0, .int 1 u1, .int 2 u2, .int 0 u3, .int 0 u4, .int 0 u5, .int 1 u6] nW0, slW0⟩)
    (w_WITH_ROW : PySem.W.nsIn K mainGlobals "WITH_ROW" = some (some (.ref aW1)))
    (v_WITH_ROW : K.lookup aW1 = some ⟨.type "tuple", odW1, .seq #[.int 2 u7, .int 5 u8] nW1, slW1⟩)
    : ∃ fd : FuncData, (∀ (s : Shared) (us : List Value), us.length = (["calls"] : List Str).length → BindsTo s fd ⟨us, []⟩ ((["calls"] : List Str).zip us)) ∧ ∀ base : Heap, K.In base → base.Ns mainGlobals mg → FnOk P w K mg base CX0 8 fa fd ["calls"] (spAns K) := by
  have e := hfa.symm.trans (PySem.W.mg_of X G a47)
  cases e
  have T : Txt K mg CS CP CB CD := ⟨⟨pgCS, hdCS, poCS, saCS⟩, ⟨pgCP, hdCP, poCP, saCP⟩, ⟨pgCB, hdCB, poCB, saCB⟩, ⟨pgCD, hdCD, poCD, saCD⟩, nCS_least, nCS_greatest, nCS_row, nCP_change, nCP_setting, nCP_winds, nCP_sails, nCB_far, nCB_changes, nCB_many, nCB_plan, nCD_passage, PySem.W.mg_none_of X G b_len, PySem.W.mg_none_of X G b_max, PySem.W.mg_none_of X G b_min, PySem.W.mg_none_of X G b_int, PySem.W.mg_none_of X G b_range, PySem.W.mg_none_of X G b_sum, PySem.W.mg_none_of X G b_list, ⟨_, PySem.W.mg_of X G q_MOST_HOURS⟩, ⟨_, PySem.W.mg_of X G q_MOST_SAILS⟩, ⟨_, PySem.W.mg_of X G q_MOST_WIND⟩, ⟨_, PySem.W.mg_of X G q_MOST_ROW⟩, ⟨_, PySem.W.mg_of X G q_MOST_FAR⟩, ⟨_, PySem.W.mg_of X G q_NOT_RIGHT⟩, ⟨_, PySem.W.mg_of X G q_FULL⟩, ⟨_, PySem.W.mg_of X G q_CANNOT⟩, ⟨_, PySem.W.mg_of X G q_MOST_ASKED⟩, ⟨_, PySem.W.mg_of X G w_WHOLES, fun H => .inr ⟨_, _, _, v_WHOLES, rfl, rfl, (by show 7 ≤ sizeLine; decide), .cons ⟨_, rfl⟩ (.cons ⟨_, rfl⟩ (.cons ⟨_, rfl⟩ (.cons ⟨_, rfl⟩ (.cons ⟨_, rfl⟩ (.cons ⟨_, rfl⟩ (.cons ⟨_, rfl⟩ (.nil)))))))⟩⟩, ⟨_, PySem.W.mg_of X G w_WITH_ROW, fun H => .inr ⟨_, _, _, v_WITH_ROW, rfl, rfl, (by show 2 ≤ sizeLine; decide), .cons ⟨_, rfl⟩ (.cons ⟨_, rfl⟩ (.nil))⟩⟩⟩
  have FCS := fun_mk (st := sInitS) lCS cCS kCS
  have FCP := fun_mk (st := sInitP) lCP cCP kCP
  have FCB := fun_mk (st := sInitB) lCB cCB kCB
  have FCD := fun_mk (st := sInitD) lCD cCD kCD
  have F9 := fun_mk (st := top 9) l9 c9 k9
  have F10 := fun_mk (st := top 10) l10 c10 k10
  have F11 := fun_mk (st := top 11) l11 c11 k11
  have F12 := fun_mk (st := top 12) l12 c12 k12
  have F13 := fun_mk (st := top 13) l13 c13 k13
  have F14 := fun_mk (st := top 14) l14 c14 k14
  have F15 := fun_mk (st := top 15) l15 c15 k15
  have F16 := fun_mk (st := top 16) l16 c16 k16
  have F17 := fun_mk (st := top 17) l17 c17 k17
  have F18 := fun_mk (st := top 18) l18 c18 k18
  have F19 := fun_mk (st := top 19) l19 c19 k19
  have F20 := fun_mk (st := top 20) l20 c20 k20
  have F21 := fun_mk (st := top 21) l21 c21 k21
  have F22 := fun_mk (st := top 22) l22 c22 k22
  have F23 := fun_mk (st := top 23) l23 c23 k23
  have F24 := fun_mk (st := top 24) l24 c24 k24
  have F25 := fun_mk (st := top 25) l25 c25 k25
  have F26 := fun_mk (st := top 26) l26 c26 k26
  have F27 := fun_mk (st := top 27) l27 c27 k27
  have F28 := fun_mk (st := top 28) l28 c28 k28
  have F29 := fun_mk (st := top 29) l29 c29 k29
  have F30 := fun_mk (st := top 30) l30 c30 k30
  have F39 := fun_mk (st := top 39) l39 c39 k39
  have F40 := fun_mk (st := top 40) l40 c40 k40
  have F41 := fun_mk (st := top 41) l41 c41 k41
  have F42 := fun_mk (st := top 42) l42 c42 k42
  have F43 := fun_mk (st := top 43) l43 c43 k43
  have F44 := fun_mk (st := top 44) l44 c44 k44
  have F45 := fun_mk (st := top 45) l45 c45 k45
  have F46 := fun_mk (st := top 46) l46 c46 k46
  have F47 := fun_mk (st := top 47) l47 c47 k47
  have BCS := FCS.binds (ps := ["self", "least", "greatest", "row"]) fun _ _ _ _ _ _ us hl => match us, hl with | [_, _, _, _], _ => rfl
  have BCP := FCP.binds (ps := ["self", "change", "setting"]) fun _ _ _ _ _ _ us hl => match us, hl with | [_, _, _], _ => rfl
  have BCB := FCB.binds (ps := ["self", "far", "changes", "many", "plan"]) fun _ _ _ _ _ _ us hl => match us, hl with | [_, _, _, _, _], _ => rfl
  have BCD := FCD.binds (ps := ["self"]) fun _ _ _ _ _ _ us hl => match us, hl with | [_], _ => rfl
  have B9 := F9.binds (ps := ["least", "greatest", "row"]) fun _ _ _ _ _ _ us hl => match us, hl with | [_, _, _], _ => rfl
  have B10 := F10.binds (ps := ["passage"]) fun _ _ _ _ _ _ us hl => match us, hl with | [_], _ => rfl
  have B11 := F11.binds (ps := ["passage", "sail", "wind"]) fun _ _ _ _ _ _ us hl => match us, hl with | [_, _, _], _ => rfl
  have B12 := F12.binds (ps := ["passage", "sail", "wind"]) fun _ _ _ _ _ _ us hl => match us, hl with | [_, _, _], _ => rfl
  have B13 := F13.binds (ps := ["passage", "before", "sail"]) fun _ _ _ _ _ _ us hl => match us, hl with | [_, _, _], _ => rfl
  have B14 := F14.binds (ps := ["passage", "hour", "before", "sail"]) fun _ _ _ _ _ _ us hl => match us, hl with | [_, _, _, _], _ => rfl
  have B15 := F15.binds (ps := ["passage", "before", "sail"]) fun _ _ _ _ _ _ us hl => match us, hl with | [_, _, _], _ => rfl
  have B16 := F16.binds (ps := ["passage", "hour", "sail"]) fun _ _ _ _ _ _ us hl => match us, hl with | [_, _, _], _ => rfl
  have B17 := F17.binds (ps := ["passage", "hour"]) fun _ _ _ _ _ _ us hl => match us, hl with | [_, _], _ => rfl
  have B18 := F18.binds (ps := ["one", "other"]) fun _ _ _ _ _ _ us hl => match us, hl with | [_, _], _ => rfl
  have B19 := F19.binds (ps := ["one", "other"]) fun _ _ _ _ _ _ us hl => match us, hl with | [_, _], _ => rfl
  have B20 := F20.binds (ps := ["passage", "hour", "before", "sail", "rest"]) fun _ _ _ _ _ _ us hl => match us, hl with | [_, _, _, _, _], _ => rfl
  have B21 := F21.binds (ps := ["some"]) fun _ _ _ _ _ _ us hl => match us, hl with | [_], _ => rfl
  have B22 := F22.binds (ps := ["passage"]) fun _ _ _ _ _ _ us hl => match us, hl with | [_], _ => rfl
  have B23 := F23.binds (ps := ["passage", "plan"]) fun _ _ _ _ _ _ us hl => match us, hl with | [_, _], _ => rfl
  have B24 := F24.binds (ps := ["passage", "plan"]) fun _ _ _ _ _ _ us hl => match us, hl with | [_, _], _ => rfl
  have B25 := F25.binds (ps := ["passage", "hour", "before"]) fun _ _ _ _ _ _ us hl => match us, hl with | [_, _, _], _ => rfl
  have B26 := F26.binds (ps := ["passage"]) fun _ _ _ _ _ _ us hl => match us, hl with | [_], _ => rfl
  have B27 := F27.binds (ps := ["passage", "plan"]) fun _ _ _ _ _ _ us hl => match us, hl with | [_, _], _ => rfl
  have B28 := F28.binds (ps := ["passage", "plan"]) fun _ _ _ _ _ _ us hl => match us, hl with | [_, _], _ => rfl
  have B29 := F29.binds (ps := ["passage", "hour", "reached"]) fun _ _ _ _ _ _ us hl => match us, hl with | [_, _, _], _ => rfl
  have B30 := F30.binds (ps := ["passage", "far"]) fun _ _ _ _ _ _ us hl => match us, hl with | [_, _], _ => rfl
  have B39 := F39.binds (ps := ["desk", "change", "setting"]) fun _ _ _ _ _ _ us hl => match us, hl with | [_, _, _], _ => rfl
  have B40 := F40.binds (ps := ["passage", "wind"]) fun _ _ _ _ _ _ us hl => match us, hl with | [_, _], _ => rfl
  have B41 := F41.binds (ps := ["passage", "wholes", "row"]) fun _ _ _ _ _ _ us hl => match us, hl with | [_, _, _], _ => rfl
  have B42 := F42.binds (ps := ["passage"]) fun _ _ _ _ _ _ us hl => match us, hl with | [_], _ => rfl
  have B43 := F43.binds (ps := ["passage"]) fun _ _ _ _ _ _ us hl => match us, hl with | [_], _ => rfl
  have B44 := F44.binds (ps := ["passage", "plan"]) fun _ _ _ _ _ _ us hl => match us, hl with | [_, _], _ => rfl
  have B45 := F45.binds (ps := ["passage", "far"]) fun _ _ _ _ _ _ us hl => match us, hl with | [_, _], _ => rfl
  have B46 := F46.binds (ps := ["desk", "kind", "wholes", "row"]) fun _ _ _ _ _ _ us hl => match us, hl with | [_, _, _, _], _ => rfl
  have B47 := F47.binds (ps := ["calls"]) fun _ _ _ _ _ _ us hl => match us, hl with | [_], _ => rfl
  refine ⟨PySem.W.fnOf "answers" "answers" (defArgs (top 47)) (defBody (top 47)) (defScope (top 47)) .none kV47 dc47 pm47 an47 cd47 ct47, fun s us hu => match us, hu with | [_], _ => .of_eq rfl, fun base _ _ => ?_⟩
  have MCS : Mak P w K mg base "Sail" CS 1 ["self", "least", "greatest", "row"] (spInitS CS) := ⟨_, _, ⟨mkCS, i0CS, i1CS, kcCS⟩, ok_initS FCS T, PySem.W.mg_of X G aCS, BCS⟩
  have MCP : Mak P w K mg base "Passage" CP 1 ["self", "change", "setting"] (spInitP CP) := ⟨_, _, ⟨mkCP, i0CP, i1CP, kcCP⟩, ok_initP FCP T, PySem.W.mg_of X G aCP, BCP⟩
  have MCB : Mak P w K mg base "Best" CB 1 ["self", "far", "changes", "many", "plan"] (spInitB CB) := ⟨_, _, ⟨mkCB, i0CB, i1CB, kcCB⟩, ok_initB FCB T, PySem.W.mg_of X G aCB, BCB⟩
  have MCD : Mak P w K mg base "Desk" CD 3 ["self"] (spInitD CS CP CD) := ⟨_, _, ⟨mkCD, i0CD, i1CD, kcCD⟩, ok_initD FCD T MCP, PySem.W.mg_of X G aCD, BCD⟩
  have C9 : Cal P w K mg base "is_sail" 1 ["least", "greatest", "row"] (spIsSail K) := cal_mk F9 (ok_isSail F9 T) (PySem.W.mg_of X G a9) B9
  have C10 : Cal P w K mg base "none_of" 1 ["passage"] (spNone CS CP) := cal_mk F10 (ok_none F10 T) (PySem.W.mg_of X G a10) B10
  have C11 : Cal P w K mg base "does_stand" 1 ["passage", "sail", "wind"] (spStand CS CP) := cal_mk F11 (ok_stand F11 T) (PySem.W.mg_of X G a11) B11
  have C12 : Cal P w K mg base "driven" 2 ["passage", "sail", "wind"] (spDriven CS CP) := cal_mk F12 (ok_driven F12 T C11) (PySem.W.mg_of X G a12) B12
  have C13 : Cal P w K mg base "cost_of" 2 ["passage", "before", "sail"] (spCost CS CP) := cal_mk F13 (ok_cost F13 T C10) (PySem.W.mg_of X G a13) B13
  have C14 : Cal P w K mg base "gain" 3 ["passage", "hour", "before", "sail"] (spGain CS CP) := cal_mk F14 (ok_gain F14 T C10 C12 C13) (PySem.W.mg_of X G a14) B14
  have C15 : Cal P w K mg base "is_change" 2 ["passage", "before", "sail"] (spIsCh CS CP) := cal_mk F15 (ok_isCh F15 T C10) (PySem.W.mg_of X G a15) B15
  have C16 : Cal P w K mg base "may_be" 2 ["passage", "hour", "sail"] (spMay CS CP) := cal_mk F16 (ok_may F16 T C10 C11) (PySem.W.mg_of X G a16) B16
  have C17 : Cal P w K mg base "choices" 3 ["passage", "hour"] (spChoices CS CP) := cal_mk F17 (ok_choices F17 T C10 C16) (PySem.W.mg_of X G a17) B17
  have C18 : Cal P w K mg base "is_better" 1 ["one", "other"] (spBetter CB) := cal_mk F18 (ok_better F18 T) (PySem.W.mg_of X G a18) B18
  have C19 : Cal P w K mg base "are_as_good" 1 ["one", "other"] (spAsGood CB) := cal_mk F19 (ok_asGood F19 T) (PySem.W.mg_of X G a19) B19
  have C20 : Cal P w K mg base "with_choice" 4 ["passage", "hour", "before", "sail", "rest"] (spWith CS CP CB) := cal_mk F20 (ok_with F20 T C14 C15 MCB) (PySem.W.mg_of X G a20) B20
  have C21 : Cal P w K mg base "best_of" 3 ["some"] (spBestOf CB) := cal_mk F21 (ok_bestOf F21 T C18 C19 MCB) (PySem.W.mg_of X G a21) B21
  have C22 : Cal P w K mg base "best_plan" 5 ["passage"] (spBestPlan CS CP CB) := cal_mk F22 (ok_bestPlan F22 T C10 C17 C20 C21 MCB) (PySem.W.mg_of X G a22) B22
  have C23 : Cal P w K mg base "gains_of" 4 ["passage", "plan"] (spGains K CS CP) := cal_mk F23 (ok_gains F23 T C10 C14) (PySem.W.mg_of X G a23) B23
  have C24 : Cal P w K mg base "changes_of" 3 ["passage", "plan"] (spChanges K CS CP) := cal_mk F24 (ok_changes F24 T C10 C15) (PySem.W.mg_of X G a24) B24
  have C25 : Cal P w K mg base "plain_choice" 4 ["passage", "hour", "before"] (spPlainC CS CP) := cal_mk F25 (ok_plainC F25 T C10 C14 C17) (PySem.W.mg_of X G a25) B25
  have C26 : Cal P w K mg base "plain_plan" 5 ["passage"] (spPlain CS CP) := cal_mk F26 (ok_plain F26 T C10 C25) (PySem.W.mg_of X G a26) B26
  have C27 : Cal P w K mg base "is_plan" 2 ["passage", "plan"] (spIsPlan K CS CP) := cal_mk F27 (ok_isPlan F27 T C10) (PySem.W.mg_of X G a27) B27
  have C28 : Cal P w K mg base "first_wrong" 3 ["passage", "plan"] (spWrong K CS CP) := cal_mk F28 (ok_wrong F28 T C16) (PySem.W.mg_of X G a28) B28
  have C29 : Cal P w K mg base "farther" 4 ["passage", "hour", "reached"] (spFarther K CS CP) := cal_mk F29 (ok_farther F29 T C10 C14 C17) (PySem.W.mg_of X G a29) B29
  have C30 : Cal P w K mg base "soonest" 5 ["passage", "far"] (spSoon CS CP) := cal_mk F30 (ok_soon F30 T C10 C29) (PySem.W.mg_of X G a30) B30
  have C39 : Cal P w K mg base "begins" 3 ["desk", "change", "setting"] (spBegins CS CP CD) := cal_mk F39 (ok_begins F39 T MCP) (PySem.W.mg_of X G a39) B39
  have C40 : Cal P w K mg base "put_hour" 1 ["passage", "wind"] (spHour CS CP) := cal_mk F40 (ok_hour F40 T) (PySem.W.mg_of X G a40) B40
  have C41 : Cal P w K mg base "put_sail" 3 ["passage", "wholes", "row"] (spSail K CS CP) := cal_mk F41 (ok_sail F41 T C9 MCS) (PySem.W.mg_of X G a41) B41
  have C42 : Cal P w K mg base "best" 6 ["passage"] (spBest CS CP) := cal_mk F42 (ok_best F42 T C22) (PySem.W.mg_of X G a42) B42
  have C43 : Cal P w K mg base "plain" 6 ["passage"] (spPlainA CS CP) := cal_mk F43 (ok_plainA F43 T C26 C23 C24) (PySem.W.mg_of X G a43) B43
  have C44 : Cal P w K mg base "check" 5 ["passage", "plan"] (spCheck K CS CP) := cal_mk F44 (ok_check F44 T C27 C28 C23 C24) (PySem.W.mg_of X G a44) B44
  have C45 : Cal P w K mg base "how_soon" 6 ["passage", "far"] (spHowSoon CS CP) := cal_mk F45 (ok_howSoon F45 T C30) (PySem.W.mg_of X G a45) B45
  have C46 : Cal P w K mg base "answered" 7 ["desk", "kind", "wholes", "row"] (spAnswered K CS CP CD) := cal_mk F46 (ok_answered F46 T C39 C40 C41 C42 C43 C44 C45) (PySem.W.mg_of X G a46) B46
  exact ok_ans F47 T C46 MCD
end Sc
open PySem PySem.W PyProof.Rows
set_option maxRecDepth 100000 in
set_option maxHeartbeats 0 in
theorem PySem.Challenge.cw_sailchanges_s01_answers_holds : PySem.Challenge.rw_sailchanges_s01_answers.Holds := by
  w_on; k_headS; (case hw => exact ⟨[.list [.int 3]], by decide +kernel, by decide +kernel⟩)
  k_fillS
  refine L2.walk_specK (r := PySem.Challenge.rw_sailchanges_s01_answers) (k := 8) (CX := L2.CX0) (ps := ["calls"]) (sp := Sc.spAns) (by decide +kernel) rfl rfl ⟨rfl, by decide, by decide⟩ (fun w h Y => PySem.W.kIn_of Y) ?F ?S (fun _ _ _ _ z => z)
  case F =>
    intro w mg fa h Y KX G hmg
    refine' Sc.all_mk KX G hmg ?aCS ?pgCS ?hdCS ?poCS ?saCS ?mkCS ?kcCS ?nCS_least ?nCS_greatest ?nCS_row ?i0CS ?i1CS ?lCS ?cCS ?kCS ?aCP ?pgCP ?hdCP ?poCP ?saCP ?mkCP ?kcCP ?nCP_change ?nCP_setting ?nCP_winds ?nCP_sails ?i0CP ?i1CP ?lCP ?cCP ?kCP ?aCB ?pgCB ?hdCB ?poCB ?saCB ?mkCB ?kcCB ?nCB_far ?nCB_changes ?nCB_many ?nCB_plan ?i0CB ?i1CB ?lCB ?cCB ?kCB ?aCD ?pgCD ?hdCD ?poCD ?saCD ?mkCD ?kcCD ?nCD_passage ?i0CD ?i1CD ?lCD ?cCD ?kCD ?a9 ?l9 ?c9 ?k9 ?a10 ?l10 ?c10 ?k10 ?a11 ?l11 ?c11 ?k11 ?a12 ?l12 ?c12 ?k12 ?a13 ?l13 ?c13 ?k13 ?a14 ?l14 ?c14 ?k14 ?a15 ?l15 ?c15 ?k15 ?a16 ?l16 ?c16 ?k16 ?a17 ?l17 ?c17 ?k17 ?a18 ?l18 ?c18 ?k18 ?a19 ?l19 ?c19 ?k19 ?a20 ?l20 ?c20 ?k20 ?a21 ?l21 ?c21 ?k21 ?a22 ?l22 ?c22 ?k22 ?a23 ?l23 ?c23 ?k23 ?a24 ?l24 ?c24 ?k24 ?a25 ?l25 ?c25 ?k25 ?a26 ?l26 ?c26 ?k26 ?a27 ?l27 ?c27 ?k27 ?a28 ?l28 ?c28 ?k28 ?a29 ?l29 ?c29 ?k29 ?a30 ?l30 ?c30 ?k30 ?a39 ?l39 ?c39 ?k39 ?a40 ?l40 ?c40 ?k40 ?a41 ?l41 ?c41 ?k41 ?a42 ?l42 ?c42 ?k42 ?a43 ?l43 ?c43 ?k43 ?a44 ?l44 ?c44 ?k44 ?a45 ?l45 ?c45 ?k45 ?a46 ?l46 ?c46 ?k46 ?a47 ?l47 ?c47 ?k47 ?b_len ?b_max ?b_min ?b_int ?b_range ?b_sum ?b_list ?q_MOST_HOURS ?q_MOST_SAILS ?q_MOST_WIND ?q_MOST_ROW ?q_MOST_FAR ?q_NOT_RIGHT ?q_FULL ?q_CANNOT ?q_MOST_ASKED ?w_WHOLES ?v_WHOLES ?w_WITH_ROW ?v_WITH_ROW
    (case aCS => k_is); (case pgCS => k_is); (case hdCS => k_is); (case poCS => k_is); (case saCS => k_is); (case mkCS => k_is)
    (case kcCS => k_is); (case nCS_least => k_is); (case nCS_greatest => k_is); (case nCS_row => k_is); (case i0CS => k_is); (case i1CS => k_is)
    (case lCS => k_is); (case cCS => k_is); (case kCS => k_is); (case aCP => k_is); (case pgCP => k_is); (case hdCP => k_is)
    (case poCP => k_is); (case saCP => k_is); (case mkCP => k_is); (case kcCP => k_is); (case nCP_change => k_is); (case nCP_setting => k_is)
    (case nCP_winds => k_is); (case nCP_sails => k_is); (case i0CP => k_is); (case i1CP => k_is); (case lCP => k_is); (case cCP => k_is)
    (case kCP => k_is); (case aCB => k_is); (case pgCB => k_is); (case hdCB => k_is); (case poCB => k_is); (case saCB => k_is)
    (case mkCB => k_is); (case kcCB => k_is); (case nCB_far => k_is); (case nCB_changes => k_is); (case nCB_many => k_is); (case nCB_plan => k_is)
    (case i0CB => k_is); (case i1CB => k_is); (case lCB => k_is); (case cCB => k_is); (case kCB => k_is); (case aCD => k_is)
    (case pgCD => k_is); (case hdCD => k_is); (case poCD => k_is); (case saCD => k_is); (case mkCD => k_is); (case kcCD => k_is)
    (case nCD_passage => k_is); (case i0CD => k_is); (case i1CD => k_is); (case lCD => k_is); (case cCD => k_is); (case kCD => k_is)
    (case a9 => k_is); (case l9 => k_is); (case c9 => k_is); (case k9 => k_is); (case a10 => k_is); (case l10 => k_is)
    (case c10 => k_is); (case k10 => k_is); (case a11 => k_is); (case l11 => k_is); (case c11 => k_is); (case k11 => k_is)
    (case a12 => k_is); (case l12 => k_is); (case c12 => k_is); (case k12 => k_is); (case a13 => k_is); (case l13 => k_is)
    (case c13 => k_is); (case k13 => k_is); (case a14 => k_is); (case l14 => k_is); (case c14 => k_is); (case k14 => k_is)
    (case a15 => k_is); (case l15 => k_is); (case c15 => k_is); (case k15 => k_is); (case a16 => k_is); (case l16 => k_is)
    (case c16 => k_is); (case k16 => k_is); (case a17 => k_is); (case l17 => k_is); (case c17 => k_is); (case k17 => k_is)
    (case a18 => k_is); (case l18 => k_is); (case c18 => k_is); (case k18 => k_is); (case a19 => k_is); (case l19 => k_is)
    (case c19 => k_is); (case k19 => k_is); (case a20 => k_is); (case l20 => k_is); (case c20 => k_is); (case k20 => k_is)
    (case a21 => k_is); (case l21 => k_is); (case c21 => k_is); (case k21 => k_is); (case a22 => k_is); (case l22 => k_is)
    (case c22 => k_is); (case k22 => k_is); (case a23 => k_is); (case l23 => k_is); (case c23 => k_is); (case k23 => k_is)
    (case a24 => k_is); (case l24 => k_is); (case c24 => k_is); (case k24 => k_is); (case a25 => k_is); (case l25 => k_is)
    (case c25 => k_is); (case k25 => k_is); (case a26 => k_is); (case l26 => k_is); (case c26 => k_is); (case k26 => k_is)
    (case a27 => k_is); (case l27 => k_is); (case c27 => k_is); (case k27 => k_is); (case a28 => k_is); (case l28 => k_is)
    (case c28 => k_is); (case k28 => k_is); (case a29 => k_is); (case l29 => k_is); (case c29 => k_is); (case k29 => k_is)
    (case a30 => k_is); (case l30 => k_is); (case c30 => k_is); (case k30 => k_is); (case a39 => k_is); (case l39 => k_is)
    (case c39 => k_is); (case k39 => k_is); (case a40 => k_is); (case l40 => k_is); (case c40 => k_is); (case k40 => k_is)
    (case a41 => k_is); (case l41 => k_is); (case c41 => k_is); (case k41 => k_is); (case a42 => k_is); (case l42 => k_is)
    (case c42 => k_is); (case k42 => k_is); (case a43 => k_is); (case l43 => k_is); (case c43 => k_is); (case k43 => k_is)
    (case a44 => k_is); (case l44 => k_is); (case c44 => k_is); (case k44 => k_is); (case a45 => k_is); (case l45 => k_is)
    (case c45 => k_is); (case k45 => k_is); (case a46 => k_is); (case l46 => k_is); (case c46 => k_is); (case k46 => k_is)
    (case a47 => k_is); (case l47 => k_is); (case c47 => k_is); (case k47 => k_is); (case b_len => k_is); (case b_max => k_is)
    (case b_min => k_is); (case b_int => k_is); (case b_range => k_is); (case b_sum => k_is); (case b_list => k_is); (case q_MOST_HOURS => k_is)
    (case q_MOST_SAILS => k_is); (case q_MOST_WIND => k_is); (case q_MOST_ROW => k_is); (case q_MOST_FAR => k_is); (case q_NOT_RIGHT => k_is); (case q_FULL => k_is)
    (case q_CANNOT => k_is); (case q_MOST_ASKED => k_is); (case w_WHOLES => k_is); (case v_WHOLES => k_is); (case w_WITH_ROW => k_is); (case v_WITH_ROW => k_is)
  case S =>
    intro K H xs a hO hwi hask hx
    cases hx with
    | cons h1 h2 =>
      cases h2
      cases h1 with
      | lst hs ha =>
        have e := L2.ints_dw a.1 _ ha
        subst e
        have q : ((Codec.inLen 0 30000 a.1 && a.1.all (Codec.inInt 0 4294967295)) && true) = true := hwi
        rw [Bool.and_eq_true, Bool.and_eq_true] at q
        exact ⟨_, a.1, rfl, hs, (Codec.inNat_iff.mp q.1.1).2, hask, fun H' p hp => .lst (L2.SqL.of hp) (L2.dw_ints _)⟩
#print axioms PySem.Challenge.cw_sailchanges_s01_answers_holds
