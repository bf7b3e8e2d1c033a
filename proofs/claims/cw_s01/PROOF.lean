import PyProof.Rows.All
import Wide.All
import OpenK.AllK
import Wide.FinOn
import Open.SpecLaws
import KE.OsGo
import HandS.ForSpec
import HandS.ForMost
import HandS.Evl
import HandS.Flt
import HandS.SetFor
import HandS.More
import HandS.DictTup
import HandS.TupLen
import KE.KeyNested
import KE.KDictDisplayH
import HandS.Walk
import PySem.Challenge.RW_costwords_s01_answers
set_option Elab.async false
set_option linter.all false
set_option maxRecDepth 100000
set_option maxHeartbeats 4000000
/-! Plain mathematics, part A: least weights, costs by vectors. -/
namespace Cw
open Kh419

/-! ### weights with infinity, told by what bounds them -/
def leB (x : Option Nat) (b : Nat) : Prop := ∃ c, x = some c ∧ c ≤ b
theorem leB_none {b : Nat} : leB none b ↔ False := ⟨fun ⟨_, h, _⟩ => (nomatch h), False.elim⟩
theorem leB_some {c b : Nat} : leB (some c) b ↔ c ≤ b := ⟨fun ⟨d, h, l⟩ => (Option.some.inj h) ▸ l, fun h => ⟨c, rfl, h⟩⟩
theorem ext_le {x y : Option Nat} (h : ∀ b, leB x b ↔ leB y b) : x = y := by
  cases x with
  | none =>
    cases y with
    | none => rfl
    | some d => exact (leB_none.mp ((h d).mpr (leB_some.mpr (Nat.le_refl d)))).elim
  | some c =>
    cases y with
    | none => exact (leB_none.mp ((h c).mp (leB_some.mpr (Nat.le_refl c)))).elim
    | some d =>
      have h1 := leB_some.mp ((h c).mp (leB_some.mpr (Nat.le_refl c)))
      have h2 := leB_some.mp ((h d).mpr (leB_some.mpr (Nat.le_refl d)))
      exact congrArg some (Nat.le_antisymm h2 h1)
theorem le_min {x y : Option Nat} {b : Nat} : leB (minWeight x y) b ↔ leB x b ∨ leB y b := by
  cases x with
  | none => cases y <;> simp [minWeight, leB_none, leB_some]
  | some c =>
    cases y with
    | none => simp [minWeight, leB_none, leB_some]
    | some d => simp only [minWeight, leB_some]; omega
theorem le_add {x y : Option Nat} {b : Nat} : leB (addWeights x y) b ↔ ∃ c, c ≤ b ∧ leB x c ∧ leB y (b - c) := by
  cases x with
  | none => simp [addWeights, leB_none]
  | some c =>
    cases y with
    | none => simp [addWeights, leB_none]
    | some d =>
      simp only [addWeights, leB_some]
      constructor
      · intro h; exact ⟨c, by omega, by omega, by omega⟩
      · rintro ⟨e, h1, h2, h3⟩; omega
theorem le_cap {B : Nat} {x : Option Nat} {b : Nat} : leB (Kh420.capWeight B x) b ↔ ∃ c, leB x c ∧ min c (B + 1) ≤ b := by
  cases x with
  | none => simp [Kh420.capWeight, leB_none]
  | some c =>
    simp only [Kh420.capWeight, Option.map_some, leB_some]
    constructor
    · intro h; exact ⟨c, Nat.le_refl c, h⟩
    · rintro ⟨d, h1, h2⟩; omega
/-- a fold that keeps the least -/
theorem le_fold {α : Type} (f : α → Option Nat) : ∀ (l : List α) (x : Option Nat) (b : Nat), leB (l.foldl (fun least k => minWeight least (f k)) x) b ↔ leB x b ∨ ∃ k ∈ l, leB (f k) b
  | [], x, b => by simp
  | a :: r, x, b => by
    rw [List.foldl_cons, le_fold f r, le_min]
    simp only [List.mem_cons, exists_eq_or_imp]
    constructor
    · rintro ((h | h) | h)
      · exact .inl h
      · exact .inr (.inl h)
      · exact .inr (.inr h)
    · rintro (h | h | h)
      · exact .inl (.inl h)
      · exact .inl (.inr h)
      · exact .inr h
theorem le_fold0 {α : Type} (f : α → Option Nat) (l : List α) (b : Nat) : leB (l.foldl (fun least k => minWeight least (f k)) none) b ↔ ∃ k ∈ l, leB (f k) b := by
  rw [le_fold]; simp [leB_none]
/-- a fold of folds -/
theorem le_fold2 {α β : Type} (g : α → β → Option Nat) (m : List β) : ∀ (l : List α) (x : Option Nat) (b : Nat),
    leB (l.foldl (fun least i => m.foldl (fun least j => minWeight least (g i j)) least) x) b ↔ leB x b ∨ ∃ i ∈ l, ∃ j ∈ m, leB (g i j) b
  | [], x, b => by simp
  | a :: r, x, b => by
    rw [List.foldl_cons, le_fold2 g m r, le_fold]
    simp only [List.mem_cons, exists_eq_or_imp]
    constructor
    · rintro ((h | h) | h)
      · exact .inl h
      · exact .inr (.inl h)
      · exact .inr (.inr h)
    · rintro (h | h | h)
      · exact .inl (.inl h)
      · exact .inl (.inr h)
      · exact .inr h

/-! ### entries of matrices made by ranges -/
theorem getD_mapR {α : Type} {n i : Nat} (f : Nat → α) (d : α) (h : i < n) : ((List.range n).map f).getD i d = f i := by
  simp [List.getD, h]
theorem getD_mapR_out {α : Type} {n i : Nat} (f : Nat → α) (d : α) (h : ¬ i < n) : ((List.range n).map f).getD i d = d := by
  simp [List.getD, h]
theorem entry_mk {n i j : Nat} (f : Nat → Nat → Option Nat) (hi : i < n) (hj : j < n) : entry ((List.range n).map fun i => (List.range n).map fun j => f i j) i j = f i j := by
  unfold entry
  rw [getD_mapR _ _ hi, getD_mapR _ _ hj]

/-! ### vectors -/
abbrev Vec := List (Option Nat)
/-- the step without a cap -/
def stepT (a : Automaton) (v : Vec) (s : Nat) : Vec := (List.range a.stateCount).map fun j => (List.range a.stateCount).foldl (fun least i => minWeight least (addWeights (v.getD i none) (entry (transitionMatrix a s) i j))) none
/-- the initial rows of a matrix, the least of each column -/
def rowsMin (a : Automaton) (M : Matrix) : Vec := (List.range a.stateCount).map fun j => a.initial.foldl (fun least i => minWeight least (entry M i j)) none
/-- the states of a set are below the number of states -/
def Small (a : Automaton) : Prop := (∀ i ∈ a.initial, i < a.stateCount) ∧ ∀ j ∈ a.final, j < a.stateCount
theorem cost_rows {a : Automaton} (h : Small a) (M : Matrix) : matrixCost a M = Kh420.vectorCost a (rowsMin a M) := by
  apply ext_le
  intro b
  unfold matrixCost Kh420.vectorCost
  rw [le_fold2, le_fold0]
  simp only [leB_none, false_or]
  constructor
  · rintro ⟨i, hi, j, hj, l⟩
    refine ⟨j, hj, ?_⟩
    unfold rowsMin
    rw [getD_mapR _ _ (h.2 j hj), le_fold0]
    exact ⟨i, hi, l⟩
  · rintro ⟨j, hj, l⟩
    unfold rowsMin at l
    rw [getD_mapR _ _ (h.2 j hj), le_fold0] at l
    obtain ⟨i, hi, l⟩ := l
    exact ⟨i, hi, j, hj, l⟩
theorem rows_identity {a : Automaton} (h : Small a) : rowsMin a (identity a.stateCount) = Kh420.initialVector a := by
  unfold rowsMin Kh420.initialVector
  apply List.map_congr_left
  intro j hj
  have hj : j < a.stateCount := List.mem_range.mp hj
  apply ext_le
  intro b
  rw [le_fold0]
  constructor
  · rintro ⟨i, hi, l⟩
    unfold identity at l
    rw [entry_mk _ (h.1 i hi) hj] at l
    by_cases e : i = j
    · subst e
      rw [if_pos (by simpa using hi), leB_some]
      exact Nat.zero_le b
    · rw [if_neg e] at l
      exact (leB_none.mp l).elim
  · intro l
    by_cases e : a.initial.contains j = true
    · refine ⟨j, by simpa using e, ?_⟩
      unfold identity
      rw [entry_mk _ hj hj, if_pos rfl, leB_some]
      exact Nat.zero_le b
    · rw [if_neg e] at l
      exact (leB_none.mp l).elim
theorem rows_multiply {a : Automaton} (h : Small a) (M : Matrix) (s : Nat) : rowsMin a (multiply a.stateCount M (transitionMatrix a s)) = stepT a (rowsMin a M) s := by
  unfold stepT
  show (List.range a.stateCount).map _ = (List.range a.stateCount).map _
  apply List.map_congr_left
  intro j hj
  have hj : j < a.stateCount := List.mem_range.mp hj
  apply ext_le
  intro b
  rw [le_fold0, le_fold0]
  constructor
  · rintro ⟨i, hi, l⟩
    unfold multiply at l
    rw [entry_mk _ (h.1 i hi) hj, le_fold0] at l
    obtain ⟨k, hk, l⟩ := l
    rw [le_add] at l
    obtain ⟨c, h1, h2, h3⟩ := l
    refine ⟨k, hk, le_add.mpr ⟨c, h1, ?_, h3⟩⟩
    unfold rowsMin
    rw [getD_mapR _ _ (List.mem_range.mp hk), le_fold0]
    exact ⟨i, hi, h2⟩
  · rintro ⟨k, hk, l⟩
    rw [le_add] at l
    obtain ⟨c, h1, h2, h3⟩ := l
    unfold rowsMin at h2
    rw [getD_mapR _ _ (List.mem_range.mp hk), le_fold0] at h2
    obtain ⟨i, hi, h2⟩ := h2
    refine ⟨i, hi, ?_⟩
    unfold multiply
    rw [entry_mk _ (h.1 i hi) hj, le_fold0]
    exact ⟨k, hk, le_add.mpr ⟨c, h1, h2, h3⟩⟩
/-- the vector behind a word -/
def vecT (a : Automaton) (w : List Nat) : Vec := w.foldl (stepT a) (Kh420.initialVector a)
theorem rows_word {a : Automaton} (h : Small a) : ∀ (w : List Nat) (M : Matrix), rowsMin a (w.foldl (fun m s => multiply a.stateCount m (transitionMatrix a s)) M) = w.foldl (stepT a) (rowsMin a M)
  | [], _ => rfl
  | s :: w, M => by
    rw [List.foldl_cons, rows_word h w, rows_multiply h, List.foldl_cons]
theorem cost_vec {a : Automaton} (h : Small a) (w : List Nat) : Kh419.cost a w = Kh420.vectorCost a (vecT a w) := by
  unfold Kh419.cost wordMatrix vecT
  rw [cost_rows h, rows_word h, rows_identity h]

/-! ### the cap -/
def capV (B : Nat) (v : Vec) : Vec := v.map (Kh420.capWeight B)
theorem step_cap (a : Automaton) (B : Nat) (v : Vec) (s : Nat) : Kh420.stepVector a B v s = capV B (stepT a v s) := by
  unfold Kh420.stepVector capV stepT
  rw [List.map_map]
  rfl
theorem getD_cap (B : Nat) (v : Vec) (i : Nat) : (capV B v).getD i none = Kh420.capWeight B (v.getD i none) := by
  unfold capV
  simp only [List.getD, List.getElem?_map]
  cases v[i]? <;> rfl
/-- what is cut above B may be cut above any lower one -/
theorem cap_cap {B C : Nat} (h : C ≤ B) (x : Option Nat) : Kh420.capWeight C (Kh420.capWeight B x) = Kh420.capWeight C x := by
  cases x with
  | none => rfl
  | some c => simp only [Kh420.capWeight, Option.map_some]; congr 1; omega
theorem capV_capV {B C : Nat} (h : C ≤ B) (v : Vec) : capV C (capV B v) = capV C v := by
  unfold capV
  rw [List.map_map]
  apply List.map_congr_left
  intro x _
  exact cap_cap h x
theorem cap_step (a : Automaton) {B C : Nat} (h : C ≤ B) (v : Vec) (s : Nat) : capV C (stepT a (capV B v) s) = capV C (stepT a v s) := by
  unfold stepT capV
  rw [List.map_map, List.map_map]
  apply List.map_congr_left
  intro j _
  show Kh420.capWeight C _ = Kh420.capWeight C _
  apply ext_le
  intro b
  rw [le_cap, le_cap]
  constructor
  · rintro ⟨c, l, hc⟩
    rw [le_fold0] at l
    obtain ⟨i, hi, l⟩ := l
    rw [show (v.map (Kh420.capWeight B)) = capV B v from rfl, getD_cap, le_add] at l
    obtain ⟨d, h1, h2, h3⟩ := l
    rw [le_cap] at h2
    obtain ⟨e, h4, h5⟩ := h2
    refine ⟨e + (c - d), ?_, by omega⟩
    rw [le_fold0]
    exact ⟨i, hi, le_add.mpr ⟨e, by omega, h4, by rw [Nat.add_sub_cancel_left]; exact h3⟩⟩
  · rintro ⟨c, l, hc⟩
    rw [le_fold0] at l
    obtain ⟨i, hi, l⟩ := l
    rw [le_add] at l
    obtain ⟨d, h1, h2, h3⟩ := l
    refine ⟨c, ?_, hc⟩
    rw [le_fold0]
    refine ⟨i, hi, ?_⟩
    rw [show (v.map (Kh420.capWeight B)) = capV B v from rfl, getD_cap, le_add]
    exact ⟨d, h1, le_cap.mpr ⟨d, h2, Nat.min_le_left _ _⟩, h3⟩
theorem cap_initial (a : Automaton) (B : Nat) : capV B (Kh420.initialVector a) = Kh420.initialVector a := by
  unfold capV Kh420.initialVector
  rw [List.map_map]
  apply List.map_congr_left
  intro i _
  show Kh420.capWeight B (if a.initial.contains i then some 0 else none) = _
  split <;> simp [Kh420.capWeight]
/-- the capped vector behind a word -/
def vecB (a : Automaton) (B : Nat) (w : List Nat) : Vec := w.foldl (Kh420.stepVector a B) (Kh420.initialVector a)
theorem fold_cap (a : Automaton) (B : Nat) : ∀ (w : List Nat) (v : Vec), w.foldl (Kh420.stepVector a B) (capV B v) = capV B (w.foldl (stepT a) v)
  | [], _ => rfl
  | s :: w, v => by
    rw [List.foldl_cons, List.foldl_cons, step_cap, cap_step a (Nat.le_refl B), fold_cap a B w]
theorem vecB_cap (a : Automaton) (B : Nat) (w : List Nat) : vecB a B w = capV B (vecT a w) := by
  unfold vecB vecT
  rw [← fold_cap, cap_initial]
theorem cost_cap (a : Automaton) (B : Nat) (v : Vec) : Kh420.vectorCost a (capV B v) = Kh420.capWeight B (Kh420.vectorCost a v) := by
  apply ext_le
  intro b
  unfold Kh420.vectorCost
  rw [le_cap, le_fold0]
  constructor
  · rintro ⟨j, hj, l⟩
    rw [getD_cap, le_cap] at l
    obtain ⟨c, l, hc⟩ := l
    exact ⟨c, (le_fold0 _ _ _).mpr ⟨j, hj, l⟩, hc⟩
  · rintro ⟨c, l, hc⟩
    rw [le_fold0] at l
    obtain ⟨j, hj, l⟩ := l
    exact ⟨j, hj, by rw [getD_cap, le_cap]; exact ⟨c, l, hc⟩⟩
/-- costs are below the cap where the weights are small and the word is short -/
def Below (B : Nat) (v : Vec) : Prop := ∀ x ∈ v, ∀ c, x = some c → c ≤ B
theorem below_getD {B : Nat} {v : Vec} (h : Below B v) {i c : Nat} (e : v.getD i none = some c) : c ≤ B := by
  simp only [List.getD] at e
  cases q : v[i]? with
  | none => rw [q] at e; cases e
  | some x => rw [q] at e; exact h x (List.mem_of_getElem? q) c e
theorem below_step {a : Automaton} {B : Nat} (hw : ∀ s i j c, entry (transitionMatrix a s) i j = some c → c ≤ 9) {v : Vec} (h : Below B v) (s : Nat) : Below (B + 9) (stepT a v s) := by
  intro x hx c e
  subst e
  unfold stepT at hx
  obtain ⟨j, _, e⟩ := List.mem_map.mp hx
  have l : leB (some c) c := leB_some.mpr (Nat.le_refl c)
  rw [← e, le_fold0] at l
  obtain ⟨i, hi, l⟩ := l
  obtain ⟨d, hd, _⟩ := id l
  cases q : v.getD i none with
  | none => rw [q] at hd; cases hd
  | some x =>
    cases r : entry (transitionMatrix a s) i j with
    | none => rw [q, r] at hd; cases hd
    | some y =>
      have hx := below_getD h q
      have hy := hw s i j y r
      have l2 : leB (List.foldl (fun least i => minWeight least (addWeights (v.getD i none) (entry (transitionMatrix a s) i j))) none (List.range a.stateCount)) (x + y) := by
        rw [le_fold0]
        exact ⟨i, hi, by rw [q, r]; exact leB_some.mpr (Nat.le_refl _)⟩
      rw [e, leB_some] at l2
      omega
theorem below_fold {a : Automaton} (hw : ∀ s i j c, entry (transitionMatrix a s) i j = some c → c ≤ 9) : ∀ (w : List Nat) (v : Vec) (B : Nat), Below B v → Below (B + 9 * w.length) (w.foldl (stepT a) v)
  | [], v, B, h => h
  | s :: w, v, B, h => by
    rw [List.foldl_cons]
    have := below_fold hw w _ _ (below_step hw h s)
    rw [List.length_cons]
    intro x hx c e
    have := this x hx c e
    omega
theorem below_initial (a : Automaton) : Below 0 (Kh420.initialVector a) := by
  intro x hx c e
  unfold Kh420.initialVector at hx
  obtain ⟨i, _, q⟩ := List.mem_map.mp hx
  subst e
  split at q
  · cases q; exact Nat.le_refl 0
  · cases q
theorem cap_of_below {B : Nat} {v : Vec} (h : Below B v) : capV B v = v := by
  have e : capV B v = v.map id := by
    unfold capV
    apply List.map_congr_left
    intro x hx
    cases x with
    | none => rfl
    | some c =>
      have := h _ hx c rfl
      simp only [Kh420.capWeight, Option.map_some, id]
      congr 1
      omega
  rw [e, List.map_id]
/-- the capped vector is the true one -/
theorem vecB_eq {a : Automaton} (hw : ∀ s i j c, entry (transitionMatrix a s) i j = some c → c ≤ 9) {B : Nat} {w : List Nat} (h : 9 * w.length ≤ B) : vecB a B w = vecT a w := by
  rw [vecB_cap]
  apply cap_of_below
  intro x hx c e
  have := below_fold hw w _ 0 (below_initial a) x hx c e
  omega
theorem cost_vecB {a : Automaton} (hs : Small a) (hw : ∀ s i j c, entry (transitionMatrix a s) i j = some c → c ≤ 9) {B : Nat} {w : List Nat} (h : 9 * w.length ≤ B) : Kh419.cost a w = Kh420.vectorCost a (vecB a B w) := by
  rw [cost_vec hs, vecB_eq hw h]
end Cw

/-! Plain mathematics, part B: the automaton as the program keeps it. -/
namespace Cw
abbrev Tr := Nat × Nat × Nat
/-- the program's automaton: how many states, symbols; the weights by (symbol, source, target); the two masks -/
structure Aut where
  n : Nat
  k : Nat
  kvs : List (Tr × Nat)
  mI : Nat
  mF : Nat
section
variable {κ β : Type} [DecidableEq κ]
def look (l : List (κ × β)) (t : κ) : Option β := (l.find? fun p => decide (p.1 = t)).map (·.2)
def put (l : List (κ × β)) (t : κ) (v : β) : List (κ × β) := if (l.any fun p => decide (p.1 = t)) = true then l.map fun p => if p.1 = t then (p.1, v) else p else l ++ [(t, v)]
def drop (l : List (κ × β)) (t : κ) : List (κ × β) := l.filter fun p => decide (p.1 ≠ t)
theorem look_nil (t : κ) : look ([] : List (κ × β)) t = none := rfl
theorem look_pos {p : κ × β} {r : List (κ × β)} {t : κ} (e : p.1 = t) : look (p :: r) t = some p.2 := by
  unfold look; rw [List.find?_cons_of_pos (by simpa using e)]; rfl
theorem look_neg {p : κ × β} {r : List (κ × β)} {t : κ} (e : ¬ p.1 = t) : look (p :: r) t = look r t := by
  unfold look; rw [List.find?_cons_of_neg (by simpa using e)]
theorem look_any {l : List (κ × β)} {t : κ} : (l.any fun p => decide (p.1 = t)) = (look l t).isSome := by
  induction l with
  | nil => rfl
  | cons p r ih =>
    by_cases e : p.1 = t
    · rw [look_pos e, List.any_cons]; simp [e]
    · rw [look_neg e, List.any_cons, ih]; simp [e]
theorem look_mem {l : List (κ × β)} {t : κ} {v : β} (h : look l t = some v) : (t, v) ∈ l := by
  induction l with
  | nil => cases h
  | cons p r ih =>
    by_cases e : p.1 = t
    · rw [look_pos e] at h; cases h; subst e; exact List.mem_cons_self
    · rw [look_neg e] at h; exact List.mem_cons_of_mem _ (ih h)
theorem look_append {l m : List (κ × β)} {t : κ} : look (l ++ m) t = (look l t).or (look m t) := by
  induction l with
  | nil => rfl
  | cons p r ih =>
    by_cases e : p.1 = t
    · rw [List.cons_append, look_pos e, look_pos e]; rfl
    · rw [List.cons_append, look_neg e, look_neg e, ih]
theorem look_repl_same {l : List (κ × β)} {t : κ} {v w : β} (h : look l t = some w) : look (l.map fun p => if p.1 = t then (p.1, v) else p) t = some v := by
  induction l with
  | nil => cases h
  | cons p r ih =>
    by_cases e : p.1 = t
    · rw [List.map_cons, if_pos e]; exact look_pos e
    · rw [List.map_cons, if_neg e, look_neg e]; rw [look_neg e] at h; exact ih h
theorem look_repl_ne {l : List (κ × β)} {t u : κ} {v : β} (h : ¬ u = t) : look (l.map fun p => if p.1 = t then (p.1, v) else p) u = look l u := by
  induction l with
  | nil => rfl
  | cons p r ih =>
    rw [List.map_cons]
    by_cases e : p.1 = t
    · rw [if_pos e, look_neg (by intro z; exact h (z.symm.trans e)), look_neg (by intro z; exact h (z.symm.trans e)), ih]
    · rw [if_neg e]
      by_cases e2 : p.1 = u
      · rw [look_pos e2, look_pos e2]
      · rw [look_neg e2, look_neg e2, ih]
theorem look_put {l : List (κ × β)} {t u : κ} {v : β} : look (put l t v) u = if u = t then some v else look l u := by
  unfold put
  by_cases c : (l.any fun p => decide (p.1 = t)) = true
  · rw [if_pos c]
    rw [look_any] at c
    by_cases e : u = t
    · subst e
      obtain ⟨w, hw⟩ := Option.isSome_iff_exists.mp c
      rw [if_pos rfl, look_repl_same hw]
    · rw [if_neg e, look_repl_ne e]
  · rw [if_neg c, look_append]
    rw [look_any] at c
    by_cases e : u = t
    · subst e
      have q : look l u = none := by simpa using c
      rw [if_pos rfl, q, look_pos rfl]; rfl
    · rw [if_neg e, look_neg (fun z => e z.symm), look_nil]; simp
theorem look_drop {l : List (κ × β)} {t u : κ} : look (drop l t) u = if u = t then none else look l u := by
  induction l with
  | nil => split <;> rfl
  | cons p r ih =>
    unfold drop at ih ⊢
    rw [List.filter_cons]
    by_cases e : p.1 = t
    · rw [if_neg (by simpa using e), ih]
      by_cases e2 : u = t
      · rw [if_pos e2, if_pos e2]
      · rw [if_neg e2, if_neg e2, look_neg (by intro z; exact e2 (z.symm.trans e))]
    · rw [if_pos (by simpa using e)]
      by_cases e2 : p.1 = u
      · rw [look_pos e2, look_pos e2, if_neg (by intro z; exact e (e2.trans z))]
      · rw [look_neg e2, look_neg e2, ih]
theorem keys_put {l : List (κ × β)} {t : κ} {v : β} : (put l t v).map (·.1) = if (look l t).isSome = true then l.map (·.1) else l.map (·.1) ++ [t] := by
  unfold put
  rw [look_any]
  split
  · rw [List.map_map]
    apply List.map_congr_left
    intro p _
    show (if p.1 = t then (p.1, v) else p).1 = p.1
    split <;> rfl
  · rw [List.map_append]; rfl
theorem look_key {l : List (κ × β)} {t : κ} : t ∈ l.map (·.1) ↔ (look l t).isSome = true := by
  induction l with
  | nil => simp [look_nil]
  | cons p r ih =>
    by_cases e : p.1 = t
    · rw [look_pos e]; simp [e]
    · rw [look_neg e, List.map_cons, List.mem_cons, ih]
      constructor
      · rintro (h | h)
        · exact (e h.symm).elim
        · exact h
      · exact .inr
end

/-! ### ranges, sets at a place -/
theorem set_mapR {α : Type} (n i : Nat) (f : Nat → α) (x : α) : ((List.range n).map f).set i x = (List.range n).map fun j => if j = i then x else f j := by
  apply List.ext_getElem?
  intro j
  rw [List.getElem?_set]
  simp only [List.length_map, List.length_range, List.getElem?_map]
  by_cases hj : j < n
  · rw [List.getElem?_range hj]
    by_cases e : i = j
    · subst e; rw [if_pos rfl, if_pos hj]; simp
    · rw [if_neg e]
      show some (f j) = some (if j = i then x else f j)
      rw [if_neg (fun z => e z.symm)]
  · have q : (List.range n)[j]? = none := List.getElem?_eq_none (by rw [List.length_range]; omega)
    rw [q]
    by_cases e : i = j
    · subst e; rw [if_pos rfl, if_neg hj]; rfl
    · rw [if_neg e]; rfl

/-! ### what the specification has of it -/
def Aut.T (m : Aut) (s : Nat) : Kh419.Matrix := (List.range m.n).map fun i => (List.range m.n).map fun j => look m.kvs (s, i, j)
def Aut.abs (m : Aut) : Kh419.Automaton := ⟨m.n, m.k, (List.range m.k).map m.T, Kh419.statesOfMask m.mI m.n, Kh419.statesOfMask m.mF m.n⟩
structure Aut.Ok (m : Aut) : Prop where
  n1 : 1 ≤ m.n
  n3 : m.n ≤ 3
  k1 : 1 ≤ m.k
  k2 : m.k ≤ 2
  mI : m.mI < 2 ^ m.n
  mF : m.mF < 2 ^ m.n
  nd : (m.kvs.map (·.1)).Nodup
  keys : ∀ p ∈ m.kvs, p.1.1 < m.k ∧ p.1.2.1 < m.n ∧ p.1.2.2 < m.n ∧ p.2 ≤ 9
theorem T_eq {m : Aut} {s : Nat} (h : s < m.k) : Kh419.transitionMatrix m.abs s = m.T s := getD_mapR _ _ h
theorem entry_T {m : Aut} {s i j : Nat} (hi : i < m.n) (hj : j < m.n) : Kh419.entry (m.T s) i j = look m.kvs (s, i, j) := entry_mk _ hi hj
theorem entry_out {m : Aut} {s i j : Nat} (h : ¬ (i < m.n ∧ j < m.n)) : Kh419.entry (m.T s) i j = none := by
  unfold Kh419.entry Aut.T
  by_cases hi : i < m.n
  · rw [getD_mapR _ _ hi, getD_mapR_out _ _ (fun z => h ⟨hi, z⟩)]
  · rw [getD_mapR_out _ _ hi]; rfl
theorem entry_le {m : Aut} (ok : m.Ok) : ∀ s i j c, Kh419.entry (Kh419.transitionMatrix m.abs s) i j = some c → c ≤ 9 := by
  intro s i j c e
  by_cases hs : s < m.k
  · rw [T_eq hs] at e
    by_cases hh : i < m.n ∧ j < m.n
    · rw [entry_T hh.1 hh.2] at e
      exact (ok.keys _ (look_mem e)).2.2.2
    · rw [entry_out hh] at e; cases e
  · have : Kh419.transitionMatrix m.abs s = [] := getD_mapR_out _ _ hs
    rw [this] at e; cases e
theorem small_abs (m : Aut) : Small m.abs := by
  constructor
  · intro i hi; exact List.mem_range.mp (List.mem_filter.mp hi).1
  · intro i hi; exact List.mem_range.mp (List.mem_filter.mp hi).1
/-- one place of the matrices is changed -/
theorem with_eq {m : Aut} {s i j : Nat} (hs : s < m.k) (hi : i < m.n) (hj : j < m.n) (l : List (Tr × Nat)) (w : Option Nat) (h : ∀ u, look l u = if u = (s, i, j) then w else look m.kvs u) :
    Kh419.withTransition m.abs s i j w = ({ m with kvs := l } : Aut).abs := by
  unfold Kh419.withTransition
  rw [T_eq hs]
  unfold Aut.abs
  simp only [Kh419.Automaton.mk.injEq, true_and, and_true]
  rw [set_mapR]
  apply List.map_congr_left
  intro s' _
  by_cases es : s' = s
  · rw [if_pos es]
    subst es
    unfold Aut.T
    rw [getD_mapR _ _ hi, set_mapR, set_mapR]
    apply List.map_congr_left
    intro i' _
    by_cases ei : i' = i
    · subst ei
      rw [if_pos rfl]
      apply List.map_congr_left
      intro j' _
      rw [h]
      by_cases ej : j' = j
      · subst ej; rw [if_pos rfl, if_pos rfl]
      · rw [if_neg ej, if_neg (by simp [ej])]
    · rw [if_neg ei]
      apply List.map_congr_left
      intro j' _
      rw [h, if_neg (by simp [ei])]
  · rw [if_neg es]
    unfold Aut.T
    apply List.map_congr_left
    intro i' _
    apply List.map_congr_left
    intro j' _
    show look m.kvs (s', i', j') = look l (s', i', j')
    rw [h, if_neg (by simp [es])]
theorem with_put {m : Aut} {s i j w : Nat} (hs : s < m.k) (hi : i < m.n) (hj : j < m.n) : Kh419.withTransition m.abs s i j (some w) = ({ m with kvs := put m.kvs (s, i, j) w } : Aut).abs :=
  with_eq hs hi hj _ _ fun u => by rw [look_put]
theorem with_drop {m : Aut} {s i j : Nat} (hs : s < m.k) (hi : i < m.n) (hj : j < m.n) : Kh419.withTransition m.abs s i j none = ({ m with kvs := drop m.kvs (s, i, j) } : Aut).abs :=
  with_eq hs hi hj _ _ fun u => by rw [look_drop]
theorem nodup_snoc {α : Type} {l : List α} {x : α} (h : l.Nodup) (hx : ¬ x ∈ l) : (l ++ [x]).Nodup := by
  rw [List.nodup_append]
  exact ⟨h, by simp, fun a ha b hb e => hx (by rw [List.mem_singleton.mp hb] at e; exact e ▸ ha)⟩
theorem ok_put {m : Aut} (ok : m.Ok) {s i j w : Nat} (hs : s < m.k) (hi : i < m.n) (hj : j < m.n) (hw : w ≤ 9) : ({ m with kvs := put m.kvs (s, i, j) w } : Aut).Ok := by
  refine ⟨ok.n1, ok.n3, ok.k1, ok.k2, ok.mI, ok.mF, ?_, ?_⟩
  · show ((put m.kvs (s, i, j) w).map (·.1)).Nodup
    rw [keys_put]
    by_cases c : (look m.kvs (s, i, j)).isSome = true
    · rw [if_pos c]; exact ok.nd
    · rw [if_neg c]
      exact nodup_snoc ok.nd (fun z => c (look_key.mp z))
  · intro p hp
    have hp : p ∈ put m.kvs (s, i, j) w := hp
    unfold put at hp
    split at hp
    · obtain ⟨q, hq, e⟩ := List.mem_map.mp hp
      split at e
      · rename_i e2
        subst e
        show q.1.1 < m.k ∧ q.1.2.1 < m.n ∧ q.1.2.2 < m.n ∧ w ≤ 9
        rw [e2]
        exact ⟨hs, hi, hj, hw⟩
      · subst e; exact ok.keys _ hq
    · rcases List.mem_append.mp hp with q | q
      · exact ok.keys _ q
      · rw [List.mem_singleton.mp q]; exact ⟨hs, hi, hj, hw⟩
theorem ok_drop {m : Aut} (ok : m.Ok) (t : Tr) : ({ m with kvs := drop m.kvs t } : Aut).Ok := by
  refine ⟨ok.n1, ok.n3, ok.k1, ok.k2, ok.mI, ok.mF, ?_, ?_⟩
  · exact ok.nd.sublist ((List.filter_sublist).map _)
  · intro p hp
    exact ok.keys _ (List.mem_filter.mp hp).1
/-- a new automaton -/
def fresh (n k : Nat) : Aut := ⟨n, k, [], 1, 1⟩
theorem fresh_ok {n k : Nat} (h1 : 1 ≤ n) (h3 : n ≤ 3) (k1 : 1 ≤ k) (k2 : k ≤ 2) : (fresh n k).Ok := by
  have : 1 < 2 ^ n := Nat.one_lt_two_pow (by omega)
  exact ⟨h1, h3, k1, k2, this, this, List.nodup_nil, fun p hp => nomatch hp⟩
theorem map_const_range {α : Type} (n : Nat) (x : α) : ((List.range n).map fun _ => x) = List.replicate n x := by
  rw [List.map_const']; simp
theorem fresh_abs {n k : Nat} (h1 : 1 ≤ n) (h3 : n ≤ 3) : (fresh n k).abs = ⟨n, k, List.replicate k (List.replicate n (List.replicate n none)), [0], [0]⟩ := by
  have e : Kh419.statesOfMask 1 n = [0] := by
    have : n = 1 ∨ n = 2 ∨ n = 3 := by omega
    rcases this with rfl | rfl | rfl <;> rfl
  have e2 : (fresh n k).abs.transitions = List.replicate k (List.replicate n (List.replicate n none)) := by
    show ((List.range k).map fun s => (List.range n).map fun i => (List.range n).map fun j => look ([] : List (Tr × Nat)) (s, i, j)) = _
    simp only [look_nil, map_const_range]
  have e3 : (fresh n k).abs = ⟨n, k, (fresh n k).abs.transitions, Kh419.statesOfMask 1 n, Kh419.statesOfMask 1 n⟩ := rfl
  rw [e3, e2, e]

/-! ### masks -/
theorem mask_back {n m : Nat} (h1 : 1 ≤ n) (h3 : n ≤ 3) (h : m < 2 ^ n) : Kh419.maskOfStates (Kh419.statesOfMask m n) = m := by
  have all : ∀ m : Fin 8, ∀ n : Fin 4, m.val < 2 ^ n.val → Kh419.maskOfStates (Kh419.statesOfMask m.val n.val) = m.val := by decide +kernel
  have l : m < 8 := Nat.lt_of_lt_of_le h (by
    have : n = 1 ∨ n = 2 ∨ n = 3 := by omega
    rcases this with rfl | rfl | rfl <;> decide)
  exact all ⟨m, l⟩ ⟨n, by omega⟩ h
theorem mask_has {n m i : Nat} (h : i < n) : (Kh419.statesOfMask m n).contains i = (m / 2 ^ i % 2 == 1) := by
  unfold Kh419.statesOfMask
  cases e : (m / 2 ^ i % 2 == 1) with
  | true =>
    rw [List.contains_iff_mem]
    exact List.mem_filter.mpr ⟨List.mem_range.mpr h, e⟩
  | false =>
    rw [← Bool.not_eq_true, List.contains_iff_mem]
    intro z
    have := (List.mem_filter.mp z).2
    rw [e] at this
    cases this

/-! ### how many transitions there are -/
theorem count_some {α β : Type} [DecidableEq α] {l : List α} {ks : List (α × β)} (hl : l.Nodup) (hk : (ks.map (·.1)).Nodup) (h : ∀ p ∈ ks, p.1 ∈ l) : (l.filter fun t => (look ks t).isSome).length = ks.length := by
  induction l generalizing ks with
  | nil =>
    cases ks with
    | nil => rfl
    | cons p r => exact absurd (h p List.mem_cons_self) (by simp)
  | cons a l ih =>
    have hl' := List.nodup_cons.mp hl
    -- the entries at a, the others
    have key : ∀ t ∈ l, (look ks t).isSome = (look (drop ks a) t).isSome := by
      intro t ht
      rw [look_drop, if_neg (by intro z; subst z; exact hl'.1 ht)]
    have ih' := ih (ks := drop ks a) hl'.2 (hk.sublist ((List.filter_sublist).map _)) (by
      intro p hp
      have hp' := List.mem_filter.mp hp
      have : p.1 ≠ a := by simpa using hp'.2
      rcases List.mem_cons.mp (h p hp'.1) with z | z
      · exact (this z).elim
      · exact z)
    have e1 : (l.filter fun t => (look ks t).isSome) = l.filter fun t => (look (drop ks a) t).isSome := List.filter_congr key
    have len : ∀ (ks : List (α × β)), (ks.map (·.1)).Nodup → (drop ks a).length = ks.length - (if (look ks a).isSome = true then 1 else 0) ∧ ((look ks a).isSome = true → 1 ≤ ks.length) := by
      intro ks
      induction ks with
      | nil => intro _; simp [look_nil, drop]
      | cons p r ih2 =>
        intro hn
        have hn' := List.nodup_cons.mp (show (p.1 :: r.map (·.1)).Nodup from hn)
        obtain ⟨i1, i2⟩ := ih2 hn'.2
        by_cases e : p.1 = a
        · have none_r : look r a = none := by
            cases q : look r a with
            | none => rfl
            | some v =>
              exact (hn'.1 (e ▸ (look_key.mpr (by rw [q]; rfl)))).elim
          rw [look_pos e]
          unfold drop at i1 ⊢
          rw [List.filter_cons, if_neg (by simpa using e), i1, none_r]
          simp
        · rw [look_neg e]
          unfold drop at i1 ⊢
          rw [List.filter_cons, if_pos (by simpa using e), List.length_cons, i1, List.length_cons]
          constructor
          · split
            · rename_i c; have := i2 c; omega
            · omega
          · intro c; omega
    obtain ⟨l1, l2⟩ := len ks hk
    rw [List.filter_cons]
    by_cases c : (look ks a).isSome = true
    · rw [if_pos c, List.length_cons, e1, ih', l1, if_pos c]
      have := l2 c
      omega
    · rw [if_neg c, e1, ih', l1, if_neg c]
      omega
def triples (k n : Nat) : List Tr := (List.range k).flatMap fun s => (List.range n).flatMap fun i => (List.range n).map fun j => (s, i, j)
theorem nodup_flatMap {α β : Type} {l : List α} {f : α → List β} (h1 : l.Nodup) (h2 : ∀ x ∈ l, (f x).Nodup) (h3 : ∀ x ∈ l, ∀ y ∈ l, x ≠ y → ∀ z, z ∈ f x → ¬ z ∈ f y) : (l.flatMap f).Nodup := by
  induction l with
  | nil => exact List.nodup_nil
  | cons a r ih =>
    have h1' := List.nodup_cons.mp h1
    rw [List.flatMap_cons, List.nodup_append]
    refine ⟨h2 a List.mem_cons_self, ih h1'.2 (fun x hx => h2 x (List.mem_cons_of_mem _ hx)) (fun x hx y hy => h3 x (List.mem_cons_of_mem _ hx) y (List.mem_cons_of_mem _ hy)), ?_⟩
    intro x hx y hy e
    subst e
    obtain ⟨b, hb, hz⟩ := List.mem_flatMap.mp hy
    exact h3 a List.mem_cons_self b (List.mem_cons_of_mem _ hb) (by intro z; subst z; exact h1'.1 hb) x hx hz
theorem nodup_map {α β : Type} {l : List α} {f : α → β} (h : l.Nodup) (hf : ∀ x y, f x = f y → x = y) : (l.map f).Nodup := by
  induction l with
  | nil => exact List.nodup_nil
  | cons a r ih =>
    have h' := List.nodup_cons.mp h
    rw [List.map_cons]
    refine List.nodup_cons.mpr ⟨fun z => ?_, ih h'.2⟩
    obtain ⟨b, hb, e⟩ := List.mem_map.mp z
    exact h'.1 (hf _ _ e ▸ hb)
theorem triples_nodup (k n : Nat) : (triples k n).Nodup := by
  refine nodup_flatMap List.nodup_range (fun s _ => nodup_flatMap List.nodup_range (fun i _ => nodup_map List.nodup_range fun x y e => by simpa using e) ?_) ?_
  · intro i _ i' _ ne z hz hz'
    obtain ⟨j, _, e⟩ := List.mem_map.mp hz
    obtain ⟨j', _, e'⟩ := List.mem_map.mp hz'
    rw [← e] at e'
    simp only [Prod.mk.injEq] at e'
    exact ne e'.2.1.symm
  · intro s _ s' _ ne z hz hz'
    obtain ⟨i, _, hz⟩ := List.mem_flatMap.mp hz
    obtain ⟨j, _, e⟩ := List.mem_map.mp hz
    obtain ⟨i', _, hz'⟩ := List.mem_flatMap.mp hz'
    obtain ⟨j', _, e'⟩ := List.mem_map.mp hz'
    rw [← e] at e'
    simp only [Prod.mk.injEq] at e'
    exact ne e'.1.symm
theorem triples_mem {k n : Nat} {t : Tr} (h1 : t.1 < k) (h2 : t.2.1 < n) (h3 : t.2.2 < n) : t ∈ triples k n :=
  List.mem_flatMap.mpr ⟨t.1, List.mem_range.mpr h1, List.mem_flatMap.mpr ⟨t.2.1, List.mem_range.mpr h2, List.mem_map.mpr ⟨t.2.2, List.mem_range.mpr h3, rfl⟩⟩⟩
theorem weights_flat (m : Aut) : Kh419.allWeights m.abs = (triples m.k m.n).map fun t => look m.kvs t := by
  unfold Kh419.allWeights triples
  show ((List.range m.k).map m.T).flatten.flatten = _
  unfold Aut.T
  rw [← List.flatMap_def, List.map_flatMap]
  induction List.range m.k with
  | nil => rfl
  | cons s r ih =>
    rw [List.flatMap_cons, List.flatten_append, ih, List.flatMap_cons]
    congr 1
    rw [← List.flatMap_def, List.map_flatMap]
    congr 1
    funext i
    rw [List.map_map]
    rfl
theorem status_count {m : Aut} (ok : m.Ok) : ((Kh419.allWeights m.abs).filter Option.isSome).length = m.kvs.length := by
  rw [weights_flat, List.filter_map, List.length_map]
  exact count_some (triples_nodup _ _) ok.nd fun p hp => let ⟨a, b, c, _⟩ := ok.keys p hp; triples_mem a b c
end Cw

/-! Plain mathematics, part C: the search over rows of costs. -/
namespace Cw
open Kh420 (stepVector initialVector vectorCost capWeight exploreVectors firstWordAbove)
abbrev Au := Kh419.Automaton
abbrev Queue := List (Vec × List Nat)
def addV (a : Au) (B : Nat) (cur : Vec × List Nat) (Q : Queue) (s : Nat) : Queue := if (Q.any fun e => e.1 == stepVector a B cur.1 s) = true then Q else Q ++ [(stepVector a B cur.1 s, cur.2 ++ [s])]
theorem explore_zero (a : Au) (B i : Nat) (Q : Queue) : exploreVectors a B 0 i Q = Q := rfl
theorem explore_none {a : Au} {B f i : Nat} {Q : Queue} (h : Q[i]? = none) : exploreVectors a B f i Q = Q := by
  cases f with
  | zero => rfl
  | succ f => show (match Q[i]? with | none => Q | some cur => _) = Q; rw [h]
theorem explore_some {a : Au} {B f i : Nat} {Q : Queue} {cur : Vec × List Nat} (h : Q[i]? = some cur) :
    exploreVectors a B (f + 1) i Q = exploreVectors a B f (i + 1) ((List.range a.symbolCount).foldl (addV a B cur) Q) := by
  show (match Q[i]? with | none => Q | some cur => exploreVectors a B f (i + 1) ((List.range a.symbolCount).foldl (addV a B cur) Q)) = _
  rw [h]
theorem any_iff {Q : Queue} {v : Vec} : (Q.any fun e => e.1 == v) = true ↔ v ∈ Q.map (·.1) := by
  rw [List.any_eq_true, List.mem_map]
  constructor
  · rintro ⟨e, h, q⟩; exact ⟨e, h, by simpa using q⟩
  · rintro ⟨e, h, q⟩; exact ⟨e, h, by simpa using q⟩
/-- what holds of the list of rows: the first i are worked off -/
structure SInv (a : Au) (B : Nat) (Q : Queue) (i : Nat) : Prop where
  nd : (Q.map (·.1)).Nodup
  val : ∀ e ∈ Q, e.1 = vecB a B e.2 ∧ ∀ s ∈ e.2, s < a.symbolCount
  clo : ∀ p, p < i → ∀ e, Q[p]? = some e → ∀ s, s < a.symbolCount → stepVector a B e.1 s ∈ Q.map (·.1)
  hd : Q[0]? = some (initialVector a, [])
theorem sinv_start (a : Au) (B : Nat) : SInv a B [(initialVector a, [])] 0 :=
  ⟨by simp, fun e he => by rw [List.mem_singleton.mp he]; exact ⟨rfl, fun s hs => (nomatch hs)⟩, fun p hp => (nomatch hp), rfl⟩
/-- what grows at its end -/
def Grow (Q R : Queue) : Prop := ∃ T, R = Q ++ T
theorem Grow.refl (Q : Queue) : Grow Q Q := ⟨[], by simp⟩
theorem Grow.trans {Q R S : Queue} (h : Grow Q R) (k : Grow R S) : Grow Q S := by
  obtain ⟨T, rfl⟩ := h; obtain ⟨U, rfl⟩ := k; exact ⟨T ++ U, by simp⟩
theorem Grow.at {Q R : Queue} (h : Grow Q R) {i : Nat} {e : Vec × List Nat} (q : Q[i]? = some e) : R[i]? = some e := by
  obtain ⟨T, rfl⟩ := h
  have := (List.getElem?_eq_some_iff.mp q).1
  rw [List.getElem?_append_left this]; exact q
theorem Grow.mem {Q R : Queue} (h : Grow Q R) {v : Vec} (q : v ∈ Q.map (·.1)) : v ∈ R.map (·.1) := by
  obtain ⟨T, rfl⟩ := h
  rw [List.map_append]; exact List.mem_append_left _ q
theorem addV_grow (a : Au) (B : Nat) (cur : Vec × List Nat) (Q : Queue) (s : Nat) : Grow Q (addV a B cur Q s) := by
  unfold addV
  split
  · exact .refl Q
  · exact ⟨_, rfl⟩
theorem fold_grow (a : Au) (B : Nat) (cur : Vec × List Nat) : ∀ (l : List Nat) (Q : Queue), Grow Q (l.foldl (addV a B cur) Q)
  | [], Q => .refl Q
  | s :: l, Q => (addV_grow a B cur Q s).trans (fold_grow a B cur l _)
/-- one row more, perhaps -/
theorem sinv_add {a : Au} {B : Nat} {Q : Queue} {i : Nat} {cur : Vec × List Nat} (h : SInv a B Q i) {p : Nat} (hc : Q[p]? = some cur) {s : Nat} (hs : s < a.symbolCount) : SInv a B (addV a B cur Q s) i ∧ stepVector a B cur.1 s ∈ (addV a B cur Q s).map (·.1) := by
  unfold addV
  by_cases c : (Q.any fun e => e.1 == stepVector a B cur.1 s) = true
  · rw [if_pos c]; exact ⟨h, any_iff.mp c⟩
  · rw [if_neg c]
    have nm := fun z => c (any_iff.mpr z)
    have hm : cur ∈ Q := List.mem_of_getElem? hc
    have hv := h.val cur hm
    have g : Grow Q (Q ++ [(stepVector a B cur.1 s, cur.2 ++ [s])]) := ⟨_, rfl⟩
    refine ⟨⟨?_, ?_, ?_, g.at h.hd⟩, ?_⟩
    · rw [List.map_append]; exact nodup_snoc h.nd nm
    · intro e he
      rcases List.mem_append.mp he with q | q
      · exact h.val e q
      · rw [List.mem_singleton.mp q]
        refine ⟨?_, fun t ht => ?_⟩
        · show stepVector a B cur.1 s = vecB a B (cur.2 ++ [s])
          unfold vecB
          rw [List.foldl_append, hv.1]; rfl
        · rcases List.mem_append.mp ht with z | z
          · exact hv.2 t z
          · rw [List.mem_singleton.mp z]; exact hs
    · intro q hq e he t ht
      by_cases l : q < Q.length
      · rw [List.getElem?_append_left l] at he
        exact g.mem (h.clo q hq e he t ht)
      · exfalso
        -- the new one stands behind all that are worked off only if i is beyond the list
        have : Q.length < i := by omega
        have := h.clo p (by have := (List.getElem?_eq_some_iff.mp hc).1; omega) cur hc s hs
        exact nm this
    · rw [List.map_append]; exact List.mem_append_right _ (by simp)
theorem sinv_fold {a : Au} {B : Nat} {i : Nat} {cur : Vec × List Nat} {p : Nat} : ∀ (l : List Nat) (Q : Queue), SInv a B Q i → Q[p]? = some cur → (∀ s ∈ l, s < a.symbolCount) →
    SInv a B (l.foldl (addV a B cur) Q) i ∧ ∀ s ∈ l, stepVector a B cur.1 s ∈ (l.foldl (addV a B cur) Q).map (·.1)
  | [], Q, h, _, _ => ⟨h, fun s hs => nomatch hs⟩
  | s :: l, Q, h, hc, hl => by
    obtain ⟨h1, h2⟩ := sinv_add h hc (hl s List.mem_cons_self)
    obtain ⟨k1, k2⟩ := sinv_fold l _ h1 ((addV_grow a B cur Q s).at hc) fun t ht => hl t (List.mem_cons_of_mem _ ht)
    refine ⟨k1, fun t ht => ?_⟩
    rcases List.mem_cons.mp ht with z | z
    · subst z; exact (fold_grow a B cur l _).mem h2
    · exact k2 t z
theorem sinv_next {a : Au} {B : Nat} {Q : Queue} {i : Nat} {cur : Vec × List Nat} (h : SInv a B Q i) (hc : Q[i]? = some cur) : SInv a B ((List.range a.symbolCount).foldl (addV a B cur) Q) (i + 1) := by
  obtain ⟨k1, k2⟩ := sinv_fold (p := i) (List.range a.symbolCount) Q h hc fun s hs => List.mem_range.mp hs
  have g := fold_grow a B cur (List.range a.symbolCount) Q
  refine ⟨k1.nd, k1.val, fun p hp e he s hs => ?_, k1.hd⟩
  by_cases z : p = i
  · subst z
    have : some e = some cur := he.symm.trans (g.at hc)
    cases this
    exact k2 s (List.mem_range.mpr hs)
  · exact k1.clo p (by omega) e he s hs

/-! ### there are not many rows -/
def opts (B : Nat) : List (Option Nat) := none :: (List.range (B + 2)).map some
def vecs (B : Nat) : Nat → List Vec
  | 0 => [[]]
  | n + 1 => (opts B).flatMap fun x => (vecs B n).map fun v => x :: v
theorem opts_len (B : Nat) : (opts B).length = B + 3 := by simp [opts]
theorem len_flatMap {α β : Type} (f : α → List β) (n : Nat) (h : ∀ x, (f x).length = n) : ∀ l : List α, (l.flatMap f).length = l.length * n
  | [] => by simp
  | a :: r => by rw [List.flatMap_cons, List.length_append, h, len_flatMap f n h r, List.length_cons, Nat.succ_mul, Nat.add_comm]
theorem vecs_len (B : Nat) : ∀ n, (vecs B n).length = (B + 3) ^ n
  | 0 => rfl
  | n + 1 => by
    unfold vecs
    rw [len_flatMap _ ((B + 3) ^ n) (fun x => by rw [List.length_map, vecs_len B n]), opts_len, Nat.pow_succ, Nat.mul_comm]
theorem vecs_mem {B : Nat} : ∀ {v : Vec}, (∀ x ∈ v, ∀ c, x = some c → c ≤ B + 1) → v ∈ vecs B v.length
  | [], _ => by simp [vecs]
  | x :: v, h => by
    show x :: v ∈ (opts B).flatMap fun x => (vecs B v.length).map fun v => x :: v
    refine List.mem_flatMap.mpr ⟨x, ?_, List.mem_map.mpr ⟨v, vecs_mem fun y hy => h y (List.mem_cons_of_mem _ hy), rfl⟩⟩
    cases x with
    | none => exact List.mem_cons_self
    | some c =>
      refine List.mem_cons_of_mem _ (List.mem_map.mpr ⟨c, List.mem_range.mpr ?_, rfl⟩)
      have := h _ List.mem_cons_self c rfl
      omega
theorem nodup_len {α : Type} [DecidableEq α] : ∀ {l S : List α}, l.Nodup → (∀ x ∈ l, x ∈ S) → l.length ≤ S.length
  | [], S, _, _ => Nat.zero_le _
  | a :: r, S, h, hs => by
    have h' := List.nodup_cons.mp h
    have ha := hs a List.mem_cons_self
    have := nodup_len (l := r) (S := S.erase a) h'.2 fun x hx => (List.mem_erase_of_ne (fun z => h'.1 (by rw [← z]; exact hx))).mpr (hs x (List.mem_cons_of_mem _ hx))
    rw [List.length_erase_of_mem ha] at this
    have : 0 < S.length := List.length_pos_of_mem ha
    rw [List.length_cons]
    omega
theorem vecB_len (a : Au) (B : Nat) (w : List Nat) : (vecB a B w).length = a.stateCount := by
  rcases List.eq_nil_or_concat w with e | ⟨r, s, e⟩
  · subst e; simp [vecB, initialVector]
  · subst e; simp [vecB, stepVector, List.concat_eq_append]
theorem vecB_le (a : Au) (B : Nat) (w : List Nat) : ∀ x ∈ vecB a B w, ∀ c, x = some c → c ≤ B + 1 := by
  rw [vecB_cap]
  intro x hx c e
  unfold capV at hx
  obtain ⟨y, _, q⟩ := List.mem_map.mp hx
  subst e
  cases y with
  | none => cases q
  | some d =>
    have : min d (B + 1) = c := Option.some.inj q
    omega
theorem sinv_len {a : Au} {B : Nat} {Q : Queue} {i : Nat} (h : SInv a B Q i) (hn : a.stateCount ≤ 3) : Q.length ≤ (B + 3) ^ 3 := by
  have := nodup_len (S := vecs B a.stateCount) h.nd (by
    intro v hv
    obtain ⟨e, he, q⟩ := List.mem_map.mp hv
    subst q
    rw [(h.val e he).1, ← vecB_len a B e.2]
    exact vecs_mem (vecB_le a B e.2))
  rw [vecs_len, List.length_map] at this
  exact Nat.le_trans this (Nat.pow_le_pow_right (by omega) hn)
/-- the list at the end -/
def rowsOf (a : Au) (B : Nat) : Queue := exploreVectors a B ((B + 3) ^ 3 + 1) 0 [(initialVector a, [])]
/-- the loop's word: the list at a place, and that it goes on to the end -/
structure SAt (a : Au) (B : Nat) (Q : Queue) (i : Nat) : Prop where
  inv : SInv a B Q i
  le : i ≤ Q.length
  go : exploreVectors a B ((B + 3) ^ 3 + 1 - i) i Q = rowsOf a B
theorem sat_start (a : Au) (B : Nat) : SAt a B [(initialVector a, [])] 0 := ⟨sinv_start a B, Nat.zero_le _, rfl⟩
theorem sat_next {a : Au} {B : Nat} {Q : Queue} {i : Nat} {cur : Vec × List Nat} (hn : a.stateCount ≤ 3) (h : SAt a B Q i) (hc : Q[i]? = some cur) : SAt a B ((List.range a.symbolCount).foldl (addV a B cur) Q) (i + 1) := by
  have l := (List.getElem?_eq_some_iff.mp hc).1
  have ll := sinv_len h.inv hn
  refine ⟨sinv_next h.inv hc, ?_, ?_⟩
  · obtain ⟨T, e⟩ := fold_grow a B cur (List.range a.symbolCount) Q
    rw [e, List.length_append]; omega
  · rw [← h.go]
    obtain ⟨f, e⟩ : ∃ f, (B + 3) ^ 3 + 1 - i = f + 1 := ⟨(B + 3) ^ 3 - i, by omega⟩
    rw [e, explore_some hc]
    congr 1
    omega
theorem sat_end {a : Au} {B : Nat} {Q : Queue} {i : Nat} (h : SAt a B Q i) (hi : ¬ i < Q.length) : Q = rowsOf a B := by
  rw [← h.go, explore_none (List.getElem?_eq_none (by omega))]

theorem reach_end {a : Au} {B : Nat} (hn : a.stateCount ≤ 3) : ∀ (m : Nat) (Q : Queue) (i : Nat), SAt a B Q i → (B + 3) ^ 3 - i ≤ m → ∃ j, SAt a B (rowsOf a B) j ∧ ¬ j < (rowsOf a B).length := by
  intro m
  induction m with
  | zero =>
    intro Q i h hm
    have l := sinv_len h.inv hn
    have := h.le
    have e : ¬ i < Q.length := by omega
    have q := sat_end h e
    exact ⟨i, q ▸ h, q ▸ e⟩
  | succ m ih =>
    intro Q i h hm
    by_cases e : i < Q.length
    · obtain ⟨cur, hc⟩ : ∃ cur, Q[i]? = some cur := ⟨_, List.getElem?_eq_getElem e⟩
      exact ih _ _ (sat_next hn h hc) (by omega)
    · have q := sat_end h e
      exact ⟨i, q ▸ h, q ▸ e⟩
/-- all rows that words come to -/
theorem rows_all {a : Au} {B : Nat} (hn : a.stateCount ≤ 3) (w : List Nat) (hw : ∀ s ∈ w, s < a.symbolCount) : vecB a B w ∈ (rowsOf a B).map (·.1) := by
  obtain ⟨j, h, hj⟩ := reach_end hn _ _ _ (sat_start a B) (Nat.le_refl _)
  have hj' : (rowsOf a B).length ≤ j := by omega
  have gen : ∀ (w : List Nat) (v : Vec), v ∈ (rowsOf a B).map (·.1) → (∀ s ∈ w, s < a.symbolCount) → w.foldl (stepVector a B) v ∈ (rowsOf a B).map (·.1) := by
    intro w
    induction w with
    | nil => intro v hv _; exact hv
    | cons s w ih =>
      intro v hv hs
      obtain ⟨e, he, q⟩ := List.mem_map.mp hv
      obtain ⟨p, hp⟩ := List.getElem?_of_mem he
      have lp := (List.getElem?_eq_some_iff.mp hp).1
      have := h.inv.clo p (by omega) e hp s (hs s List.mem_cons_self)
      rw [q] at this
      exact ih _ this fun t ht => hs t (List.mem_cons_of_mem _ ht)
  exact gen w _ (List.mem_map.mpr ⟨_, List.mem_of_getElem? h.inv.hd, rfl⟩) hw
theorem rows_word_of {a : Au} {B : Nat} (hn : a.stateCount ≤ 3) {e : Vec × List Nat} (he : e ∈ rowsOf a B) : e.1 = vecB a B e.2 ∧ ∀ s ∈ e.2, s < a.symbolCount := by
  obtain ⟨j, h, _⟩ := reach_end hn _ _ _ (sat_start a B) (Nat.le_refl _)
  exact h.inv.val e he

/-! ### the least bound -/
def above (b : Nat) (x : Option Nat) : Bool := match x with
  | none => false
  | some c => decide (b < c)
theorem first_eq (a : Au) (b : Nat) : firstWordAbove a b = ((rowsOf a b).find? fun e => above b (vectorCost a e.1)).map (·.2) := rfl
/-- no word costs more than b -/
def NoneAbove (a : Au) (b : Nat) : Prop := ∀ w : List Nat, (∀ s ∈ w, s < a.symbolCount) → above b (vectorCost a (vecT a w)) = false
theorem above_cap {b B : Nat} (h : b ≤ B) (x : Option Nat) : above b (capWeight B x) = above b x := by
  cases x with
  | none => rfl
  | some c =>
    show decide (b < min c (B + 1)) = decide (b < c)
    rw [decide_eq_decide]
    omega
theorem none_above_rows {a : Au} {b B : Nat} (hn : a.stateCount ≤ 3) (h : b ≤ B) : NoneAbove a b ↔ ∀ e ∈ rowsOf a B, above b (vectorCost a e.1) = false := by
  constructor
  · intro z e he
    obtain ⟨q, hs⟩ := rows_word_of hn he
    rw [q, vecB_cap, cost_cap, above_cap h]
    exact z e.2 hs
  · intro z w hw
    obtain ⟨e, he, q⟩ := List.mem_map.mp (rows_all (B := B) hn w hw)
    have := z e he
    rw [q, vecB_cap, cost_cap, above_cap h] at this
    exact this
theorem first_none {a : Au} {b : Nat} (hn : a.stateCount ≤ 3) : (firstWordAbove a b).isNone = true ↔ NoneAbove a b := by
  rw [none_above_rows hn (Nat.le_refl b), first_eq, Option.isNone_map, Option.isNone_iff_eq_none, List.find?_eq_none]
  constructor
  · intro z e he; have := z e he; simpa using this
  · intro z e he; have := z e he; simpa using this
/-- the greatest cost of the rows, 0 without any -/
def greatest (a : Au) (Q : Queue) : Nat := Q.foldl (fun g e => match vectorCost a e.1 with | none => g | some c => max g c) 0
theorem greatest_le {a : Au} {b : Nat} : ∀ (Q : Queue) (g : Nat), Q.foldl (fun g e => match vectorCost a e.1 with | none => g | some c => max g c) g ≤ b ↔ g ≤ b ∧ ∀ e ∈ Q, above b (vectorCost a e.1) = false
  | [], g => by simp
  | e :: Q, g => by
    rw [List.foldl_cons, greatest_le Q]
    simp only [List.mem_cons, forall_eq_or_imp]
    cases vectorCost a e.1 with
    | none => simp [above]
    | some c =>
      simp only [above, decide_eq_false_iff_not]
      constructor
      · rintro ⟨h1, h2⟩; exact ⟨by omega, by omega, h2⟩
      · rintro ⟨h1, h2, h3⟩; exact ⟨by omega, h3⟩
theorem greatest_iff {a : Au} {b B : Nat} (hn : a.stateCount ≤ 3) (h : b ≤ B) : greatest a (rowsOf a B) ≤ b ↔ (firstWordAbove a b).isNone = true := by
  rw [first_none hn, none_above_rows hn h]
  unfold greatest
  rw [greatest_le]
  simp
theorem greatest_top {a : Au} {B : Nat} (hn : a.stateCount ≤ 3) : greatest a (rowsOf a B) ≤ B + 1 := by
  unfold greatest
  rw [greatest_le]
  refine ⟨Nat.zero_le _, fun e he => ?_⟩
  rw [(rows_word_of hn he).1, vecB_cap, cost_cap]
  cases vectorCost a (vecT a e.2) with
  | none => rfl
  | some c => show decide (B + 1 < min c (B + 1)) = false; rw [decide_eq_false_iff_not]; omega
theorem find_range {p : Nat → Bool} {g : Nat} : ∀ (n : Nat), (∀ b, b < n → (p b = true ↔ g ≤ b)) → (List.range n).find? p = if g < n then some g else none := by
  intro n h
  by_cases l : g < n
  · rw [if_pos l, List.find?_range_eq_some]
    refine ⟨(h g l).mpr (Nat.le_refl g), List.mem_range.mpr l, fun j hj => ?_⟩
    cases e : p j with
    | false => rfl
    | true => have := (h j (by omega)).mp e; omega
  · rw [if_neg l, List.find?_eq_none]
    intro b hb
    have hb := List.mem_range.mp hb
    intro e
    have := (h b hb).mp e
    omega
theorem least_bound_eq {a : Au} (hn : a.stateCount ≤ 3) : (List.range 13).find? (fun b => (firstWordAbove a b).isNone) = if greatest a (rowsOf a 12) < 13 then some (greatest a (rowsOf a 12)) else none :=
  find_range 13 fun b hb => (greatest_iff hn (by omega)).symm

/-! ### the ways -/
structure Ways (Q : Queue) (W : List (Int × Int)) : Prop where
  len : W.length = Q.length
  way : ∀ (i : Nat) (e : Vec × List Nat), Q[i]? = some e → (i = 0 ∧ e.2 = [] ∧ W[i]? = some (-1, -1)) ∨ ∃ (p s : Nat) (e' : Vec × List Nat), p < i ∧ Q[p]? = some e' ∧ e.2 = e'.2 ++ [s] ∧ W[i]? = some ((p : Int), (s : Int))
theorem ways_start (a : Au) : Ways [(initialVector a, [])] [(-1, -1)] :=
  ⟨rfl, fun i e h => by
    cases i with
    | zero => cases h; exact .inl ⟨rfl, rfl, rfl⟩
    | succ i => simp at h⟩
theorem ways_more {Q : Queue} {W : List (Int × Int)} (h : Ways Q W) {p : Nat} {cur : Vec × List Nat} (hp : Q[p]? = some cur) (v : Vec) (s : Nat) : Ways (Q ++ [(v, cur.2 ++ [s])]) (W ++ [((p : Int), (s : Int))]) := by
  have lp := (List.getElem?_eq_some_iff.mp hp).1
  refine ⟨by simp [h.len], fun i e he => ?_⟩
  by_cases l : i < Q.length
  · rw [List.getElem?_append_left l] at he
    rcases h.way i e he with ⟨a1, a2, a3⟩ | ⟨q, t, e', b1, b2, b3, b4⟩
    · exact .inl ⟨a1, a2, by rw [List.getElem?_append_left (by rw [h.len]; exact l)]; exact a3⟩
    · exact .inr ⟨q, t, e', b1, by rw [List.getElem?_append_left (by omega)]; exact b2, b3, by rw [List.getElem?_append_left (by rw [h.len]; exact l)]; exact b4⟩
  · have li := (List.getElem?_eq_some_iff.mp he).1
    rw [List.length_append, List.length_singleton] at li
    have : i = Q.length := by omega
    subst this
    rw [List.getElem?_append_right (Nat.le_refl _), Nat.sub_self] at he
    cases he
    refine .inr ⟨p, s, cur, lp, by rw [List.getElem?_append_left lp]; exact hp, rfl, ?_⟩
    rw [List.getElem?_append_right (by rw [h.len]; exact Nat.le_refl _), h.len, Nat.sub_self]
    rfl
end Cw

/-! Plain mathematics, part D: abstract matrices, expressions, the monoid. -/
namespace Cw
open Kh420 (AbstractMatrix Expression)
/-- a square matrix of entries 0 to 3 -/
structure MOk (n : Nat) (m : AbstractMatrix) : Prop where
  len : m.length = n
  row : ∀ r ∈ m, r.length = n ∧ ∀ x ∈ r, x ≤ 3
theorem MOk.at {n : Nat} {m : AbstractMatrix} (h : MOk n m) {i j : Nat} (hi : i < n) (hj : j < n) : ∃ r, m[i]? = some r ∧ r[j]? = some (Kh420.entry m i j) ∧ Kh420.entry m i j ≤ 3 := by
  have l : i < m.length := by rw [h.len]; exact hi
  have hr := h.row _ (List.getElem_mem l)
  have lj : j < (m[i]).length := by rw [hr.1]; exact hj
  have e : Kh420.entry m i j = (m[i])[j] := by
    unfold Kh420.entry
    simp [List.getD, List.getElem?_eq_getElem l, List.getElem?_eq_getElem lj]
  refine ⟨m[i], List.getElem?_eq_getElem l, ?_, ?_⟩
  · rw [e]; exact List.getElem?_eq_getElem lj
  · rw [e]; exact hr.2 _ (List.getElem_mem lj)
theorem mok_build {n : Nat} {f : Nat → Nat → Nat} (h : ∀ i j, f i j ≤ 3) : MOk n (Kh420.build n f) := by
  unfold Kh420.build
  refine ⟨by simp, fun r hr => ?_⟩
  obtain ⟨i, _, rfl⟩ := List.mem_map.mp hr
  refine ⟨by simp, fun x hx => ?_⟩
  obtain ⟨j, _, rfl⟩ := List.mem_map.mp hx
  exact h i j
theorem fold_min_le (f : Nat → Nat) : ∀ (l : List Nat) (x : Nat), l.foldl (fun least k => min least (f k)) x ≤ x
  | [], x => Nat.le_refl x
  | a :: r, x => by rw [List.foldl_cons]; exact Nat.le_trans (fold_min_le f r _) (Nat.min_le_left _ _)
theorem min_le3 (n : Nat) (f : Nat → Nat) : Kh420.minimumOver n f ≤ 3 := fold_min_le f _ 3
theorem mok_mul {n : Nat} (a b : AbstractMatrix) : MOk n (Kh420.multiply n a b) := mok_build fun _ _ => min_le3 _ _
theorem mok_stab {n : Nat} (a : AbstractMatrix) : MOk n (Kh420.stabilize n a) := mok_build fun _ _ => min_le3 _ _
theorem abs_le (w : Option Nat) : Kh420.abstractWeight w ≤ 3 := by
  cases w with
  | none => exact Nat.le_refl 3
  | some c => cases c <;> simp [Kh420.abstractWeight]
theorem abs_T (m : Aut) (s : Nat) : Kh420.abstractOf (m.T s) = Kh420.build m.n fun i j => Kh420.abstractWeight (look m.kvs (s, i, j)) := by
  unfold Kh420.abstractOf Aut.T Kh420.build
  rw [List.map_map]
  apply List.map_congr_left
  intro i _
  show ((List.range m.n).map fun j => look m.kvs (s, i, j)).map Kh420.abstractWeight = _
  rw [List.map_map]
  rfl
theorem mok_T (m : Aut) (s : Nat) : MOk m.n (Kh420.abstractOf (m.T s)) := by
  rw [abs_T]; exact mok_build fun _ _ => abs_le _
theorem abs_id (n : Nat) : Kh420.abstractOf (Kh419.identity n) = Kh420.build n fun i j => if i = j then 0 else 3 := by
  unfold Kh420.abstractOf Kh419.identity Kh420.build
  rw [List.map_map]
  apply List.map_congr_left
  intro i _
  show ((List.range n).map fun j => if i = j then some 0 else none).map Kh420.abstractWeight = _
  rw [List.map_map]
  apply List.map_congr_left
  intro j _
  show Kh420.abstractWeight (if i = j then some 0 else none) = if i = j then 0 else 3
  split <;> rfl
theorem mok_id (n : Nat) : MOk n (Kh420.abstractOf (Kh419.identity n)) := by
  rw [abs_id]; refine mok_build fun i j => ?_; split <;> omega
/-- what min(..) of a list that is not empty hands over -/
theorem min_is {n : Nat} {f : Nat → Nat} (h0 : 0 < n) (hf : ∀ k, k < n → f k ≤ 3) {m : Int} (hm : m ∈ (List.range n).map fun k => ((f k : Nat) : Int)) (hl : ∀ y ∈ (List.range n).map fun k => ((f k : Nat) : Int), m ≤ y) :
    m = ((Kh420.minimumOver n f : Nat) : Int) := by
  have key : ∀ (l : List Nat) (x : Nat), (∀ k ∈ l, l.foldl (fun least k => min least (f k)) x ≤ f k) ∧ (l.foldl (fun least k => min least (f k)) x = x ∨ ∃ k ∈ l, l.foldl (fun least k => min least (f k)) x = f k) := by
    intro l
    induction l with
    | nil => intro x; exact ⟨fun k hk => (nomatch hk), .inl rfl⟩
    | cons a r ih =>
      intro x
      obtain ⟨h1, h2⟩ := ih (min x (f a))
      have h3 := fold_min_le f r (min x (f a))
      rw [List.foldl_cons]
      refine ⟨fun k hk => ?_, ?_⟩
      · rcases List.mem_cons.mp hk with z | z
        · subst z; omega
        · exact h1 k z
      · rcases h2 with z | ⟨k, hk, z⟩
        · rw [z]
          by_cases c : x ≤ f a
          · exact .inl (Nat.min_eq_left c)
          · exact .inr ⟨a, List.mem_cons_self, Nat.min_eq_right (by omega)⟩
        · exact .inr ⟨k, List.mem_cons_of_mem _ hk, z⟩
  obtain ⟨k1, k2⟩ := key (List.range n) 3
  have e : Kh420.minimumOver n f = (List.range n).foldl (fun least k => min least (f k)) 3 := rfl
  rw [← e] at k1 k2
  obtain ⟨k, hk, rfl⟩ := List.mem_map.mp hm
  have hk := List.mem_range.mp hk
  have a1 := k1 k (List.mem_range.mpr hk)
  rcases k2 with z | ⟨j, hj, z⟩
  · have a2 := hf k hk
    omega
  · have a2 := hl _ (List.mem_map.mpr ⟨j, hj, rfl⟩)
    omega
/-! ### words -/
theorem word_snoc (a : Au) (w : List Nat) (s : Nat) : Kh420.abstractMatrixOfWord a (w ++ [s]) = Kh420.multiply a.stateCount (Kh420.abstractMatrixOfWord a w) (Kh420.abstractOf (Kh419.transitionMatrix a s)) := by
  unfold Kh420.abstractMatrixOfWord
  rw [List.foldl_append]; rfl
theorem mok_word (m : Aut) (w : List Nat) : MOk m.n (Kh420.abstractMatrixOfWord m.abs w) := by
  rcases List.eq_nil_or_concat w with e | ⟨r, s, e⟩
  · subst e; exact mok_id m.n
  · subst e
    rw [List.concat_eq_append, word_snoc]
    exact mok_mul _ _
/-! ### the acceptance value, bit by bit -/
theorem foldl_filterR {α β : Type} (p : α → Bool) (f : β → α → β) : ∀ (l : List α) (x : β), (l.filter p).foldl f x = l.foldl (fun x y => if p y = true then f x y else x) x
  | [], _ => rfl
  | a :: r, x => by
    rw [List.filter_cons, List.foldl_cons]
    cases e : p a with
    | true => rw [if_pos rfl, if_pos rfl, List.foldl_cons, foldl_filterR p f r]
    | false => rw [if_neg Bool.false_ne_true, if_neg Bool.false_ne_true, foldl_filterR p f r]
def bit (m i : Nat) : Bool := m / 2 ^ i % 2 == 1
def accIn (mF n : Nat) (M : AbstractMatrix) (i x : Nat) (l : List Nat) : Nat := l.foldl (fun least j => if bit mF j = true then min least (Kh420.entry M i j) else least) x
def accOut (mI mF n : Nat) (M : AbstractMatrix) (x : Nat) (l : List Nat) : Nat := l.foldl (fun least i => if bit mI i = true then accIn mF n M i least (List.range n) else least) x
theorem acceptance_eq (m : Aut) (M : AbstractMatrix) : Kh420.acceptance m.abs M = accOut m.mI m.mF m.n M 3 (List.range m.n) := by
  unfold Kh420.acceptance
  show ((Kh419.statesOfMask m.mI m.n).foldl (fun least i => (Kh419.statesOfMask m.mF m.n).foldl (fun least j => min least (Kh420.entry M i j)) least) 3) = _
  unfold Kh419.statesOfMask
  rw [foldl_filterR]
  unfold accOut
  congr 1
  funext x i
  rw [foldl_filterR]
  rfl
/-- the program tests both bits in the inner loop -/
theorem accIn_off {mI mF n : Nat} {M : AbstractMatrix} {i : Nat} (h : bit mI i = false) (x : Nat) : ∀ l : List Nat, l.foldl (fun least j => if (bit mI i && bit mF j) = true then min least (Kh420.entry M i j) else least) x = x
  | [] => rfl
  | a :: r => by rw [List.foldl_cons, h]; exact (by simpa [h] using accIn_off (mI := mI) (mF := mF) (n := n) (M := M) h x r)
theorem cost_bits (m : Aut) (v : Vec) : Kh420.vectorCost m.abs v = (List.range m.n).foldl (fun least j => if bit m.mF j = true then Kh419.minWeight least (v.getD j none) else least) none := by
  unfold Kh420.vectorCost
  show (Kh419.statesOfMask m.mF m.n).foldl _ none = _
  unfold Kh419.statesOfMask
  rw [foldl_filterR]
  rfl

/-! ### expressions, written behind -/
/-- one sign on a stack of expressions, the topmost first -/
def pstep (st : Option (List Expression)) (x : Nat) : Option (List Expression) := match st with
  | none => none
  | some st => if x = 8 then (match st with
      | r :: l :: st => some (.concat l r :: st)
      | _ => none) else if x = 9 then (match st with
      | e :: st => some (.repeat_ e :: st)
      | [] => none) else if 2 ≤ x then none else some (.symbol x :: st)
theorem pstep_none : ∀ l : List Nat, l.foldl pstep none = none
  | [] => rfl
  | a :: r => by rw [List.foldl_cons]; exact pstep_none r
theorem parse_eq : ∀ (l : List Nat) (st : List Expression), Kh420.parsePostfix l st = match l.foldl pstep (some st) with
    | some [x] => some x
    | _ => none
  | [], [] => rfl
  | [], [x] => rfl
  | [], x :: y :: r => rfl
  | a :: l, st => by
    rw [List.foldl_cons]
    by_cases h8 : a = 8
    · subst h8
      match st with
      | [] => unfold Kh420.parsePostfix; simp [pstep, pstep_none]
      | [x] => unfold Kh420.parsePostfix; simp [pstep, pstep_none]
      | r :: q :: st => rw [Kh420.parsePostfix, parse_eq l]; rfl
    · by_cases h9 : a = 9
      · subst h9
        match st with
        | [] => unfold Kh420.parsePostfix; simp [pstep, pstep_none]
        | e :: st => rw [Kh420.parsePostfix, parse_eq l]; rfl
      · rw [Kh420.parsePostfix]
        · have e : pstep (some st) a = if 2 ≤ a then none else some (.symbol a :: st) := by simp only [pstep, if_neg h8, if_neg h9]
          rw [e]
          by_cases c : 2 ≤ a
          · rw [if_pos c, if_pos c, pstep_none]
          · rw [if_neg c, if_neg c, parse_eq l]
        · intros; exact h8 (by assumption)
        · intros; exact h9 (by assumption)
/-- the depth of the program's is_expression: none where it gives up -/
def dstep (k : Nat) (d : Option Nat) (x : Nat) : Option Nat := match d with
  | none => none
  | some d => if x < k then some (d + 1) else if x = 8 ∧ 2 ≤ d then some (d - 1) else if x = 9 ∧ 1 ≤ d then some d else none
theorem dstep_none (k : Nat) : ∀ l : List Nat, l.foldl (dstep k) none = none
  | [] => rfl
  | a :: r => by rw [List.foldl_cons]; exact dstep_none k r
def isExpr (k : Nat) (l : List Nat) : Bool := l.foldl (dstep k) (some 0) == some 1
def badSign (k : Nat) (x : Nat) : Bool := decide (k ≤ x) && (x != 8 && x != 9)
theorem badSign_iff {k x : Nat} : badSign k x = true ↔ k ≤ x ∧ x ≠ 8 ∧ x ≠ 9 := by simp [badSign]
/-- the depth is the stack's -/
theorem depth_is {k : Nat} (hk : k ≤ 2) : ∀ (l : List Nat) (st : List Expression), (l.any (badSign k) = true → l.foldl (dstep k) (some st.length) = none) ∧
    (l.any (badSign k) = false → l.foldl (dstep k) (some st.length) = (l.foldl pstep (some st)).map (·.length))
  | [], st => ⟨fun h => by simp at h, fun _ => rfl⟩
  | a :: l, st => by
    rw [List.foldl_cons, List.foldl_cons, List.any_cons]
    by_cases hb : badSign k a = true
    · have hb' := badSign_iff.mp hb
      have e : dstep k (some st.length) a = none := by
        simp only [dstep]
        rw [if_neg (by omega), if_neg (by omega), if_neg (by omega)]
      rw [e, dstep_none, hb]
      exact ⟨fun _ => rfl, fun h => by simp at h⟩
    · have hb0 : badSign k a = false := by simpa using hb
      have hb' : a < k ∨ a = 8 ∨ a = 9 := by
        by_cases c1 : a < k
        · exact .inl c1
        · by_cases c2 : a = 8
          · exact .inr (.inl c2)
          · by_cases c3 : a = 9
            · exact .inr (.inr c3)
            · exact (hb (badSign_iff.mpr ⟨by omega, c2, c3⟩)).elim
      rw [hb0, Bool.false_or]
      -- one step: alike
      have step : (∃ st', pstep (some st) a = some st' ∧ dstep k (some st.length) a = some st'.length) ∨ (pstep (some st) a = none ∧ dstep k (some st.length) a = none) := by
        rcases hb' with z | z | z
        · refine .inl ⟨.symbol a :: st, ?_, ?_⟩
          · simp only [pstep]; rw [if_neg (by omega), if_neg (by omega), if_neg (by omega)]
          · simp only [dstep]; rw [if_pos z]; rfl
        · subst z
          match st with
          | [] => exact .inr ⟨rfl, by simp only [dstep]; rw [if_neg (by omega), if_neg (by simp), if_neg (by simp)]⟩
          | [x] => exact .inr ⟨rfl, by simp only [dstep]; rw [if_neg (by omega), if_neg (by simp), if_neg (by simp)]⟩
          | r :: q :: st =>
            refine .inl ⟨.concat q r :: st, rfl, ?_⟩
            simp only [dstep]; rw [if_neg (by omega), if_pos (by simp)]; simp
        · subst z
          match st with
          | [] => exact .inr ⟨rfl, by simp only [dstep]; rw [if_neg (by omega), if_neg (by simp), if_neg (by simp)]⟩
          | e :: st =>
            refine .inl ⟨.repeat_ e :: st, rfl, ?_⟩
            simp only [dstep]; rw [if_neg (by omega), if_neg (by simp), if_pos (by simp)]; simp
      rcases step with ⟨st', e1, e2⟩ | ⟨e1, e2⟩
      · rw [e1, e2]
        exact depth_is hk l st'
      · rw [e1, e2, dstep_none, pstep_none]
        exact ⟨fun _ => rfl, fun _ => rfl⟩
/-- an expression that the program takes, the specification takes; and the other way round -/
theorem expr_iff {k : Nat} (hk : k ≤ 2) (l : List Nat) : (isExpr k l = false ∧ (l.any (badSign k) = true ∨ Kh420.parsePostfix l [] = none)) ∨
    (isExpr k l = true ∧ l.any (badSign k) = false ∧ ∃ e, Kh420.parsePostfix l [] = some e ∧ l.foldl pstep (some []) = some [e]) := by
  obtain ⟨h1, h2⟩ := depth_is hk l []
  unfold isExpr
  by_cases hb : l.any (badSign k) = true
  · have := h1 hb
    have e : l.foldl (dstep k) (some 0) = none := this
    rw [e]
    exact .inl ⟨rfl, .inl hb⟩
  · have hb0 : l.any (badSign k) = false := by simpa using hb
    have e : l.foldl (dstep k) (some 0) = (l.foldl pstep (some [])).map (·.length) := h2 hb0
    rw [e, parse_eq, hb0]
    cases q : l.foldl pstep (some []) with
    | none => exact .inl ⟨rfl, .inr rfl⟩
    | some st =>
      match st with
      | [] => exact .inl ⟨rfl, .inr rfl⟩
      | [x] => exact .inr ⟨rfl, rfl, x, rfl, rfl⟩
      | x :: y :: r => exact .inl ⟨by simp, .inr rfl⟩
theorem spec_expr {a : Au} (l : List Nat) (f : Expression → Kh420.Result) (hk : a.symbolCount ≤ 2) : (isExpr a.symbolCount l = false ∧ Kh420.withExpression a l f = Kh420.single (-22)) ∨
    (isExpr a.symbolCount l = true ∧ ∃ e, l.foldl pstep (some []) = some [e] ∧ Kh420.withExpression a l f = f e) := by
  have he : Kh420.withExpression a l f = if l.any (badSign a.symbolCount) = true then Kh420.single (-22) else match Kh420.parsePostfix l [] with
    | none => Kh420.single (-22)
    | some e => f e := rfl
  rcases expr_iff hk l with ⟨h1, h2⟩ | ⟨h1, h2, e, h3, h4⟩
  · refine .inl ⟨h1, ?_⟩
    rw [he]
    rcases h2 with z | z
    · rw [if_pos z]
    · rw [z]; split <;> rfl
  · refine .inr ⟨h1, e, h4, ?_⟩
    rw [he, h2, if_neg Bool.false_ne_true, h3]
/-- where the whole list is an expression, each step finds what it takes; a part of the list -/
theorem pstep_part {l r : List Nat} {st : List Expression} (h : (l ++ r).foldl pstep (some []) = some st) : ∃ st', l.foldl pstep (some []) = some st' := by
  rw [List.foldl_append] at h
  cases e : l.foldl pstep (some []) with
  | none => rw [e, pstep_none] at h; cases h
  | some st' => exact ⟨st', rfl⟩
/-- the three kinds of a step -/
inductive PStep : Nat → List Expression → List Expression → Prop
  | join {l r st} : PStep 8 (r :: l :: st) (.concat l r :: st)
  | again {e st} : PStep 9 (e :: st) (.repeat_ e :: st)
  | sym {x st} : x < 2 → PStep x st (.symbol x :: st)
theorem pstep_kind {x : Nat} {st st' : List Expression} (h : pstep (some st) x = some st') : PStep x st st' := by
  by_cases h8 : x = 8
  · subst h8
    match st, h with
    | r :: l :: st, h => cases h; exact .join
  · by_cases h9 : x = 9
    · subst h9
      match st, h with
      | e :: st, h => cases h; exact .again
    · simp only [pstep, if_neg h8, if_neg h9] at h
      by_cases c : 2 ≤ x
      · rw [if_pos c] at h; cases h
      · rw [if_neg c] at h; cases h; exact .sym (by omega)
/-! the length and the unrolling, cut at 61 -/
theorem unroll_len_rep (count : Nat) : ∀ w : List Nat, (Kh419.power count w).length = count * w.length := by
  induction count with
  | zero => intro w; simp [Kh419.power]
  | succ n ih => intro w; rw [Kh419.power, List.length_append, ih, Nat.succ_mul, Nat.add_comm]
def cutLen (count : Nat) (e : Expression) : Nat := min 61 (Kh420.unroll count e).length
theorem cutLen_join (count : Nat) (l r : Expression) : cutLen count (.concat l r) = min 61 (cutLen count l + cutLen count r) := by
  have e : (Kh420.unroll count (.concat l r)).length = (Kh420.unroll count l).length + (Kh420.unroll count r).length := List.length_append
  unfold cutLen
  rw [e]
  omega
theorem min_times (n c : Nat) : min 61 (n * min 61 c) = min 61 (n * c) := by
  by_cases h : c ≤ 61
  · rw [Nat.min_eq_right h]
  · rw [Nat.min_eq_left (a := 61) (b := c) (by omega)]
    cases n with
    | zero => simp
    | succ n =>
      have h1 : 61 ≤ (n + 1) * 61 := Nat.le_mul_of_pos_left 61 (by omega)
      have h2 : (n + 1) * 61 ≤ (n + 1) * c := Nat.mul_le_mul_left _ (by omega)
      rw [Nat.min_eq_left h1, Nat.min_eq_left (Nat.le_trans h1 h2)]
theorem cutLen_again (count : Nat) (e : Expression) : cutLen count (.repeat_ e) = min 61 (count * cutLen count e) := by
  unfold cutLen
  rw [Kh420.unroll, unroll_len_rep, min_times]
def cut (count : Nat) (e : Expression) : List Nat := (Kh420.unroll count e).take 61
theorem cut_join (count : Nat) (l r : Expression) : cut count (.concat l r) = (cut count l ++ cut count r).take 61 := by
  unfold cut
  rw [Kh420.unroll, List.take_append, List.take_append, List.take_take, List.take_take, List.length_take]
  congr 1
  by_cases c : (Kh420.unroll count l).length ≤ 61
  · rw [Nat.min_eq_right c]; congr 1; omega
  · rw [show 61 - (Kh420.unroll count l).length = 0 by omega, show 61 - min 61 (Kh420.unroll count l).length = 0 by omega]; simp
/-- xs * k -/
def times (k : Nat) (w : List Nat) : List Nat := (List.replicate k w).flatten
theorem power_times (k : Nat) (w : List Nat) : Kh419.power k w = times k w := by
  unfold times
  induction k with
  | zero => rfl
  | succ n ih => rw [Kh419.power, ih, List.replicate_succ, List.flatten_cons]
theorem take_times : ∀ (k n : Nat) (w : List Nat), (times k (w.take n)).take n = (times k w).take n
  | 0, _, _ => rfl
  | k + 1, n, w => by
    have e : ∀ w : List Nat, times (k + 1) w = w ++ times k w := fun w => by unfold times; rw [List.replicate_succ, List.flatten_cons]
    rw [e, e, List.take_append, List.take_append, List.take_take, List.length_take, Nat.min_self]
    congr 1
    by_cases c : w.length ≤ n
    · rw [Nat.min_eq_right c, List.take_of_length_le c]
    · rw [Nat.min_eq_left (by omega), show n - w.length = 0 by omega, Nat.sub_self]; simp
theorem cut_again (count : Nat) (e : Expression) : cut count (.repeat_ e) = (times count (cut count e)).take 61 := by
  unfold cut
  rw [Kh420.unroll, power_times, take_times]
theorem cut_eq {count : Nat} {e : Expression} (h : (Kh420.unroll count e).length ≤ 60) : cut count e = Kh420.unroll count e := List.take_of_length_le (by omega)
theorem cut_le (count : Nat) (e : Expression) : (cut count e).length ≤ 61 := by unfold cut; rw [List.length_take]; omega
theorem unroll_mono {j k : Nat} (h : j ≤ k) : ∀ e : Expression, (Kh420.unroll j e).length ≤ (Kh420.unroll k e).length
  | .symbol _ => Nat.le_refl _
  | .concat l r => by
    rw [Kh420.unroll, Kh420.unroll, List.length_append, List.length_append]
    exact Nat.add_le_add (unroll_mono h l) (unroll_mono h r)
  | .repeat_ e => by
    rw [Kh420.unroll, Kh420.unroll, unroll_len_rep, unroll_len_rep]
    exact Nat.mul_le_mul h (unroll_mono h e)
/-- an expression's symbols -/
def Syms (k : Nat) : Expression → Prop
  | .symbol s => s < k
  | .concat l r => Syms k l ∧ Syms k r
  | .repeat_ e => Syms k e
theorem unroll_syms {k count : Nat} : ∀ {e : Expression}, Syms k e → ∀ s ∈ Kh420.unroll count e, s < k
  | .symbol t, h, s, hs => by rw [List.mem_singleton.mp hs]; exact h
  | .concat l r, h, s, hs => by
    rcases List.mem_append.mp hs with z | z
    · exact unroll_syms h.1 s z
    · exact unroll_syms h.2 s z
  | .repeat_ e, h, s, hs => by
    rw [Kh420.unroll, power_times] at hs
    unfold times at hs
    obtain ⟨w, hw, hs⟩ := List.mem_flatten.mp hs
    rw [(List.mem_replicate.mp hw).2] at hs
    exact unroll_syms (e := e) h s hs
end Cw

/-! Plain mathematics, part E: the monoid, and an element's expression from its parts. -/
namespace Cw
open Kh420 (AbstractMatrix Expression Elements addElement isKnown closeElements generators multiply stabilize isIdempotent toPostfix)
abbrev Elem := AbstractMatrix × Expression
theorem known_iff {L : Elements} {m : AbstractMatrix} : isKnown L m = true ↔ m ∈ L.map (·.1) := by
  unfold isKnown
  rw [List.any_eq_true, List.mem_map]
  constructor
  · rintro ⟨e, h, q⟩; exact ⟨e, h, by simpa using q⟩
  · rintro ⟨e, h, q⟩; exact ⟨e, h, by simpa using q⟩
def growE (a : Au) (i : Nat) (cur : Elem) (L : Elements) : Elements :=
  let stabilized := if isIdempotent a.stateCount cur.1 then addElement L (stabilize a.stateCount cur.1, .repeat_ cur.2) else L
  let withRight := (L.take (i + 1)).foldl (fun found e => addElement found (multiply a.stateCount cur.1 e.1, .concat cur.2 e.2)) stabilized
  (L.take (i + 1)).foldl (fun found e => addElement found (multiply a.stateCount e.1 cur.1, .concat e.2 cur.2)) withRight
theorem close_none {a : Au} {f i : Nat} {L : Elements} (h : L[i]? = none) : closeElements f a i L = L := by
  cases f with
  | zero => rfl
  | succ f => show (match L[i]? with | none => L | some cur => _) = L; rw [h]
theorem close_big {a : Au} {f i : Nat} {L : Elements} (h : 100 < L.length) : closeElements f a i L = L := by
  cases f with
  | zero => rfl
  | succ f =>
    show (match L[i]? with | none => L | some cur => if Kh420.maxElements < L.length then L else _) = L
    cases L[i]? with
    | none => rfl
    | some cur => exact if_pos h
theorem close_some {a : Au} {f i : Nat} {L : Elements} {cur : Elem} (h : L[i]? = some cur) (hl : ¬ 100 < L.length) : closeElements (f + 1) a i L = closeElements f a (i + 1) (growE a i cur L) := by
  show (match L[i]? with | none => L | some cur => if Kh420.maxElements < L.length then L else closeElements f a (i + 1) (growE a i cur L)) = _
  rw [h]
  exact if_neg hl
/-- lists that grow at their end -/
def GrowE (L R : Elements) : Prop := ∃ T, R = L ++ T
theorem GrowE.refl (L : Elements) : GrowE L L := ⟨[], by simp⟩
theorem GrowE.trans {L R S : Elements} (h : GrowE L R) (k : GrowE R S) : GrowE L S := by
  obtain ⟨T, rfl⟩ := h; obtain ⟨U, rfl⟩ := k; exact ⟨T ++ U, by simp⟩
theorem GrowE.at {L R : Elements} (h : GrowE L R) {i : Nat} {e : Elem} (q : L[i]? = some e) : R[i]? = some e := by
  obtain ⟨T, rfl⟩ := h
  have := (List.getElem?_eq_some_iff.mp q).1
  rw [List.getElem?_append_left this]; exact q
theorem GrowE.len {L R : Elements} (h : GrowE L R) : L.length ≤ R.length := by
  obtain ⟨T, rfl⟩ := h; rw [List.length_append]; omega
theorem add_grow (L : Elements) (e : Elem) : GrowE L (addElement L e) := by
  unfold addElement
  split
  · exact .refl L
  · exact ⟨_, rfl⟩
theorem add_len (L : Elements) (e : Elem) : (addElement L e).length ≤ L.length + 1 := by
  unfold addElement
  split
  · omega
  · simp
theorem foldE_grow (f : Elem → Elem) : ∀ (l L : Elements), GrowE L (l.foldl (fun found e => addElement found (f e)) L)
  | [], L => .refl L
  | e :: l, L => (add_grow L (f e)).trans (foldE_grow f l _)
theorem foldE_len (f : Elem → Elem) : ∀ (l L : Elements), (l.foldl (fun found e => addElement found (f e)) L).length ≤ L.length + l.length
  | [], L => Nat.le_refl _
  | e :: l, L => by
    rw [List.foldl_cons, List.length_cons]
    have := foldE_len f l (addElement L (f e))
    have := add_len L (f e)
    omega
/-- what holds of the elements -/
structure EInv (n k : Nat) (L : Elements) : Prop where
  nd : (L.map (·.1)).Nodup
  ok : ∀ e ∈ L, MOk n e.1
theorem einv_add {n k : Nat} {L : Elements} (h : EInv n k L) {e : Elem} (ok : MOk n e.1) : EInv n k (addElement L e) := by
  unfold addElement
  by_cases c : isKnown L e.1 = true
  · rw [if_pos c]; exact h
  · rw [if_neg c]
    refine ⟨?_, fun x hx => ?_⟩
    · rw [List.map_append]; exact nodup_snoc h.nd fun z => c (known_iff.mpr z)
    · rcases List.mem_append.mp hx with q | q
      · exact h.ok x q
      · rw [List.mem_singleton.mp q]; exact ok
/-! how an element's expression is built of earlier ones: (kind, first, second) -/
abbrev Part := Int × Int × Int
def PartOk (L : Elements) (i : Nat) (x : Expression) (b : Part) : Prop :=
  (∃ s : Nat, x = .symbol s ∧ b = ((s : Int), -1, -1)) ∨
  (∃ (p : Nat) (e : Elem), p < i ∧ L[p]? = some e ∧ x = .repeat_ e.2 ∧ b = (9, (p : Int), -1)) ∨
  (∃ (p q : Nat) (e e' : Elem), p < i ∧ q < i ∧ L[p]? = some e ∧ L[q]? = some e' ∧ x = .concat e.2 e'.2 ∧ b = (8, (p : Int), (q : Int)))
theorem PartOk.grow {L R : Elements} (g : GrowE L R) {i : Nat} {x : Expression} {b : Part} (h : PartOk L i x b) : PartOk R i x b := by
  rcases h with h | ⟨p, e, h1, h2, h3⟩ | ⟨p, q, e, e', h1, h2, h3, h4, h5⟩
  · exact .inl h
  · exact .inr (.inl ⟨p, e, h1, g.at h2, h3⟩)
  · exact .inr (.inr ⟨p, q, e, e', h1, h2, g.at h3, g.at h4, h5⟩)
structure Built (L : Elements) (B : List Part) : Prop where
  len : B.length = L.length
  part : ∀ (i : Nat) (e : Elem), L[i]? = some e → ∃ b, B[i]? = some b ∧ PartOk L i e.2 b
theorem built_nil : Built [] [] := ⟨rfl, fun i e h => by simp at h⟩
/-- the program's put: L, the parts -/
def putE (s : Elements × List Part) (e : Elem) (b : Part) : Elements × List Part := if isKnown s.1 e.1 = true then s else (s.1 ++ [e], s.2 ++ [b])
theorem putE_fst (s : Elements × List Part) (e : Elem) (b : Part) : (putE s e b).1 = addElement s.1 e := by
  unfold putE addElement
  split <;> rfl
theorem built_put {s : Elements × List Part} (h : Built s.1 s.2) {e : Elem} {b : Part} (hp : PartOk s.1 s.1.length e.2 b) : Built (putE s e b).1 (putE s e b).2 := by
  unfold putE
  split
  · exact h
  · refine ⟨by simp [h.len], fun i e' he => ?_⟩
    have g : GrowE s.1 (s.1 ++ [e]) := ⟨_, rfl⟩
    by_cases l : i < s.1.length
    · have he : (s.1 ++ [e])[i]? = some e' := he
      rw [List.getElem?_append_left l] at he
      obtain ⟨b', h1, h2⟩ := h.part i e' he
      exact ⟨b', by show (s.2 ++ [b])[i]? = _; rw [List.getElem?_append_left (by rw [h.len]; exact l)]; exact h1, h2.grow g⟩
    · have he : (s.1 ++ [e])[i]? = some e' := he
      have li := (List.getElem?_eq_some_iff.mp he).1
      rw [List.length_append, List.length_singleton] at li
      have : i = s.1.length := by omega
      subst this
      rw [List.getElem?_append_right (Nat.le_refl _), Nat.sub_self] at he
      cases he
      refine ⟨b, ?_, hp.grow g⟩
      show (s.2 ++ [b])[s.1.length]? = some b
      rw [List.getElem?_append_right (by rw [h.len]; exact Nat.le_refl _), h.len, Nat.sub_self]
      rfl
/-- the loop's word: the elements when those below i are worked off -/
structure MAt (a : Au) (L : Elements) (i : Nat) : Prop where
  le : i ≤ L.length
  go : closeElements (102 - i) a i L = Kh420.monoid a
theorem mat_start (a : Au) : MAt a (generators a) 0 := ⟨Nat.zero_le _, rfl⟩
theorem mat_next {a : Au} {L : Elements} {i : Nat} {cur : Elem} (h : MAt a L i) (hc : L[i]? = some cur) (hl : ¬ 100 < L.length) : MAt a (growE a i cur L) (i + 1) := by
  have l := (List.getElem?_eq_some_iff.mp hc).1
  refine ⟨?_, ?_⟩
  · have g : GrowE L (growE a i cur L) := by
      unfold growE
      refine GrowE.trans ?_ ((foldE_grow (fun e => (multiply a.stateCount cur.1 e.1, .concat cur.2 e.2)) _ _).trans (foldE_grow (fun e => (multiply a.stateCount e.1 cur.1, .concat e.2 cur.2)) _ _))
      split
      · exact add_grow _ _
      · exact .refl _
    have := g.len
    omega
  · rw [← h.go]
    obtain ⟨f, e⟩ : ∃ f, 102 - i = f + 1 := ⟨101 - i, by omega⟩
    rw [e, close_some hc hl]
    congr 1
    omega
theorem mat_end {a : Au} {L : Elements} {i : Nat} (h : MAt a L i) (hi : ¬ (i < L.length ∧ L.length ≤ 100)) : L = Kh420.monoid a := by
  rw [← h.go]
  by_cases c : 100 < L.length
  · rw [close_big c]
  · rw [close_none (List.getElem?_eq_none (by omega))]

/-! ### the expression of an element -/
def kindOf : Expression → Nat
  | .symbol s => s
  | .concat _ _ => 8
  | .repeat_ _ => 9
theorem post_pos : ∀ e : Expression, 1 ≤ (toPostfix e).length
  | .symbol _ => Nat.le_refl 1
  | .concat x y => by unfold toPostfix; simp; omega
  | .repeat_ x => by unfold toPostfix; simp
abbrev Work := Nat × Bool
def todo (L : Elements) (w : Work) : List Nat := match L[w.1]? with
  | none => []
  | some e => if w.2 = true then [kindOf e.2] else toPostfix e.2
def heavy (L : Elements) (w : Work) : Nat := match L[w.1]? with
  | none => 0
  | some e => if w.2 = true then 1 else 2 * (toPostfix e.2).length
def rest (L : Elements) (ws : List Work) : List Nat := ws.reverse.flatMap (todo L)
def load (L : Elements) (ws : List Work) : Nat := (ws.map (heavy L)).sum
theorem rest_snoc (L : Elements) (ws : List Work) (w : Work) : rest L (ws ++ [w]) = todo L w ++ rest L ws := by
  unfold rest; rw [List.reverse_append]; rfl
theorem load_snoc (L : Elements) (ws : List Work) (w : Work) : load L (ws ++ [w]) = load L ws + heavy L w := by
  unfold load; rw [List.map_append, List.sum_append]; simp
/-- each item of the work leaves a sign at least -/
theorem rest_len {L : Elements} : ∀ {ws : List Work}, (∀ w ∈ ws, w.1 < L.length) → ws.length ≤ (rest L ws).length := by
  intro ws h
  unfold rest
  rw [← List.length_reverse]
  have h' : ∀ w ∈ ws.reverse, w.1 < L.length := fun w hw => h w (List.mem_reverse.mp hw)
  generalize ws.reverse = l at h'
  induction l with
  | nil => exact Nat.le_refl _
  | cons w r ih =>
    rw [List.flatMap_cons, List.length_append, List.length_cons]
    have h1 := ih fun x hx => h' x (List.mem_cons_of_mem _ hx)
    have h2 : 1 ≤ (todo L w).length := by
      unfold todo
      rw [List.getElem?_eq_getElem (h' w List.mem_cons_self)]
      show 1 ≤ (if w.2 = true then _ else _ : List Nat).length
      split
      · exact Nat.le_refl 1
      · exact post_pos _
    omega
/-- one item is taken: its sign is written, or it is laid out -/
theorem work_mark {L : Elements} {B : List Part} (h : Built L B) {here : Nat} {m : Bool} {ws : List Work} (hl : here < L.length) :
    ∃ kind first second : Int, B[here]? = some (kind, first, second) ∧ ((m = true ∨ first < 0) → ∃ kn : Nat, kind = (kn : Int) ∧ rest L (ws ++ [(here, m)]) = kn :: rest L ws ∧ load L ws < load L (ws ++ [(here, m)])) ∧
      (m = false → ¬ first < 0 → ∃ p : Nat, first = (p : Int) ∧ p < L.length ∧
        ((second < 0 → rest L (ws ++ [(here, m)]) = rest L (ws ++ [(here, true), (p, false)]) ∧ load L (ws ++ [(here, true), (p, false)]) < load L (ws ++ [(here, m)])) ∧
         (¬ second < 0 → ∃ q : Nat, second = (q : Int) ∧ q < L.length ∧ rest L (ws ++ [(here, m)]) = rest L (ws ++ [(here, true), (q, false), (p, false)]) ∧ load L (ws ++ [(here, true), (q, false), (p, false)]) < load L (ws ++ [(here, m)])))) := by
  obtain ⟨e, he⟩ : ∃ e, L[here]? = some e := ⟨_, List.getElem?_eq_getElem hl⟩
  obtain ⟨⟨kind, first, second⟩, hb, hp⟩ := h.part here e he
  have tm : todo L (here, true) = [kindOf e.2] := by unfold todo; rw [he]; rfl
  have tf : todo L (here, false) = toPostfix e.2 := by unfold todo; rw [he]; rfl
  have hm : heavy L (here, true) = 1 := by unfold heavy; rw [he]; rfl
  have hf : heavy L (here, false) = 2 * (toPostfix e.2).length := by unfold heavy; rw [he]; rfl
  refine ⟨kind, first, second, hb, fun c => ?_, fun c1 c2 => ?_⟩
  · have hk : ∃ kn : Nat, kind = (kn : Int) ∧ kindOf e.2 = kn ∧ (first < 0 → toPostfix e.2 = [kn]) := by
      rcases hp with ⟨s, hx, hb⟩ | ⟨p, e', _, _, hx, hb⟩ | ⟨p, q, e', e'', _, _, _, _, hx, hb⟩
      · simp only [Prod.mk.injEq] at hb
        exact ⟨s, hb.1, by rw [hx]; rfl, fun _ => by rw [hx]; rfl⟩
      · simp only [Prod.mk.injEq] at hb
        exact ⟨9, hb.1, by rw [hx]; rfl, fun z => by omega⟩
      · simp only [Prod.mk.injEq] at hb
        exact ⟨8, hb.1, by rw [hx]; rfl, fun z => by omega⟩
    obtain ⟨kn, h1, h2, h3⟩ := hk
    refine ⟨kn, h1, ?_, ?_⟩
    · rw [rest_snoc]
      cases m with
      | true => rw [tm, h2]; rfl
      | false => rw [tf, h3 (by rcases c with z | z; cases z; exact z)]; rfl
    · rw [load_snoc]
      cases m with
      | true => rw [hm]; omega
      | false =>
        rw [hf]
        have := post_pos e.2
        omega
  · subst c1
    have lay : ∀ (x : List Work) , rest L (ws ++ (here, true) :: x) = x.reverse.flatMap (todo L) ++ ([kindOf e.2] ++ rest L ws) := by
      intro x
      unfold rest
      rw [List.reverse_append, List.reverse_cons, List.flatMap_append, List.flatMap_append]
      show (_ ++ (todo L (here, true) ++ [])) ++ _ = _
      rw [tm, List.append_nil, List.append_assoc]
    have ld : ∀ (x : List Work), load L (ws ++ (here, true) :: x) = load L ws + (1 + (x.map (heavy L)).sum) := by
      intro x
      unfold load
      rw [List.map_append, List.sum_append, List.map_cons, List.sum_cons, hm]
    rcases hp with ⟨s, hx, hb⟩ | ⟨p, e', p1, p2, hx, hb⟩ | ⟨p, q, e', e'', p1, q1, p2, q2, hx, hb⟩
    · simp only [Prod.mk.injEq] at hb
      omega
    · simp only [Prod.mk.injEq] at hb
      have lp := (List.getElem?_eq_some_iff.mp p2).1
      have tp : todo L (p, false) = toPostfix e'.2 := by unfold todo; rw [p2]; rfl
      have hp' : heavy L (p, false) = 2 * (toPostfix e'.2).length := by unfold heavy; rw [p2]; rfl
      refine ⟨p, hb.2.1, lp, fun _ => ?_, fun z => by omega⟩
      constructor
      · rw [rest_snoc, tf, lay, hx]
        show toPostfix e'.2 ++ [9] ++ _ = (todo L (p, false) ++ []) ++ _
        rw [tp, List.append_nil, List.append_assoc]
        rfl
      · rw [load_snoc, hf, ld, hx]
        simp only [List.map_cons, List.map_nil, List.sum_cons, List.sum_nil, hp']
        simp only [toPostfix, List.length_append, List.length_singleton]
        omega
    · simp only [Prod.mk.injEq] at hb
      have lp := (List.getElem?_eq_some_iff.mp p2).1
      have lq := (List.getElem?_eq_some_iff.mp q2).1
      have tp : todo L (p, false) = toPostfix e'.2 := by unfold todo; rw [p2]; rfl
      have tq : todo L (q, false) = toPostfix e''.2 := by unfold todo; rw [q2]; rfl
      have hp' : heavy L (p, false) = 2 * (toPostfix e'.2).length := by unfold heavy; rw [p2]; rfl
      have hq' : heavy L (q, false) = 2 * (toPostfix e''.2).length := by unfold heavy; rw [q2]; rfl
      refine ⟨p, hb.2.1, lp, fun z => by omega, fun _ => ⟨q, hb.2.2, lq, ?_, ?_⟩⟩
      · rw [rest_snoc, tf, lay, hx]
        show toPostfix e'.2 ++ toPostfix e''.2 ++ [8] ++ _ = (todo L (p, false) ++ (todo L (q, false) ++ [])) ++ _
        rw [tp, tq, List.append_nil, List.append_assoc]
        rfl
      · rw [load_snoc, hf, ld, hx]
        simp only [List.map_cons, List.map_nil, List.sum_cons, List.sum_nil, hp', hq']
        simp only [toPostfix, List.length_append, List.length_singleton]
        omega
theorem rest_one {L : Elements} {here : Nat} {e : Elem} (h : L[here]? = some e) : rest L [(here, false)] = toPostfix e.2 := by
  unfold rest todo
  simp [h]

/-! ### the values of acceptance -/
def accs (a : Au) (L : Elements) : List Nat := L.map fun e => Kh420.acceptance a e.1
theorem limited_eq (a : Au) : Kh420.isLimited a = !(accs a (Kh420.monoid a)).contains 2 := by
  unfold Kh420.isLimited accs
  rw [Bool.eq_iff_iff]
  simp only [List.all_eq_true, Bool.not_eq_true', List.contains_eq_mem, decide_eq_false_iff_not, List.mem_map, not_exists, not_and, bne_iff_ne, ne_eq]
theorem witness_eq (a : Au) {j : Nat} (h : (accs a (Kh420.monoid a))[j]? = some 2) (hf : ∀ i, i < j → (accs a (Kh420.monoid a))[i]? ≠ some 2) : ∃ e, (Kh420.monoid a)[j]? = some e ∧ Kh420.unlimitedWitness a = some e.2 := by
  unfold accs at h hf
  generalize hL : Kh420.monoid a = L at h hf ⊢
  rw [List.getElem?_map] at h
  obtain ⟨e, he, h2⟩ := Option.map_eq_some_iff.mp h
  refine ⟨e, he, ?_⟩
  unfold Kh420.unlimitedWitness
  rw [hL]
  have q : L.find? (fun e => Kh420.acceptance a e.1 == 2) = some e := by
    rw [List.find?_eq_some_iff_getElem]
    obtain ⟨hj, ej⟩ := List.getElem?_eq_some_iff.mp he
    refine ⟨by simp [h2], j, hj, ej, fun i hi => ?_⟩
    have := hf i hi
    rw [List.getElem?_map, List.getElem?_eq_getElem (by omega)] at this
    simpa using this
  rw [q]; rfl
theorem witness_none (a : Au) (h : Kh420.isLimited a = true) : Kh420.unlimitedWitness a = none := by
  unfold Kh420.unlimitedWitness
  rw [Option.map_eq_none_iff, List.find?_eq_none]
  intro e he
  unfold Kh420.isLimited at h
  have := List.all_eq_true.mp h e he
  simpa using this
theorem accepting_eq (a : Au) (L : Elements) : (L.filter fun e => Kh420.acceptance a e.1 != 3).length = ((accs a L).filter fun x => x != 3).length := by
  unfold accs
  rw [List.filter_map, List.length_map]
  rfl
theorem free_eq (a : Au) (L : Elements) : (L.filter fun e => Kh420.acceptance a e.1 == 0).length = ((accs a L).filter fun x => x == 0).length := by
  unfold accs
  rw [List.filter_map, List.length_map]
  rfl
end Cw

/-! Rules of our own: a dict whose keys are nested tuples, all its values True; d.pop(k) where keys are tuples. -/
namespace Cr
open PySem PySem.Spec PyProof.Rows L2
/-! ### keys that are numbers and tuples, over the abstract heap -/
mutual
inductive KeyAt (H : Hp) : NestedKey → V → Prop
  | num (i : Int) : KeyAt H (.num i) (.int i)
  | tup {a : Addr} {vs : List V} {ks : List NestedKey} : H a = some (.tup vs) → KeyAll H ks vs → KeyAt H (.tup ks) (.ref a)
inductive KeyAll (H : Hp) : List NestedKey → List V → Prop
  | nil : KeyAll H [] []
  | cons {k : NestedKey} {v : V} {ks : List NestedKey} {vs : List V} : KeyAt H k v → KeyAll H ks vs → KeyAll H (k :: ks) (v :: vs)
end
mutual
theorem KeyAt.mono {H H' : Hp} (e : ∀ b xs, H b = some (.tup xs) → H' b = some (.tup xs)) : ∀ {k : NestedKey} {v : V}, KeyAt H k v → KeyAt H' k v
  | .num _, _, h => by cases h; exact .num _
  | .tup ks, _, h => by cases h with | tup h1 h2 => exact .tup (e _ _ h1) (KeyAll.mono e h2)
  | .none, _, h => by cases h
  | .text _, _, h => by cases h
theorem KeyAll.mono {H H' : Hp} (e : ∀ b xs, H b = some (.tup xs) → H' b = some (.tup xs)) : ∀ {ks : List NestedKey} {vs : List V}, KeyAll H ks vs → KeyAll H' ks vs
  | [], _, h => by cases h; exact .nil
  | _ :: _, _, h => by cases h with | cons h1 h2 => exact .cons (KeyAt.mono e h1) (KeyAll.mono e h2)
end
mutual
theorem KeyAt.is {P : Program} {w : World} {H : Hp} {h : Heap} (ok : HOk P w H h) : ∀ {k : NestedKey} {v : V} {u : Value}, KeyAt H k v → RelV v u → NestedIs h k u
  | .num i, _, u, x, r => by
    cases x
    obtain ⟨t, rfl⟩ := (show ∃ t, u = Value.int i t from r)
    exact .int i t
  | .tup ks, _, u, x, r => by
    cases x with
    | @tup a vs _ h1 h2 =>
      obtain rfl : u = Value.ref a := r
      obtain ⟨_, its, rv, o, e1, e2, n, e3⟩ := (show ObjOk P w H h a (.tup vs) from ok a _ h1)
      exact .tup e1 e2 e3 (by simpa using KeyAll.is ok h2 rv)
  | .none, _, _, x, _ => by cases x
  | .text _, _, _, x, _ => by cases x
theorem KeyAll.is {P : Program} {w : World} {H : Hp} {h : Heap} (ok : HOk P w H h) : ∀ {ks : List NestedKey} {vs : List V} {us : List Value}, KeyAll H ks vs → Vals vs us → NestedAll h ks us
  | [], _, _, x, r => by cases x; cases r; exact .nil
  | _ :: _, _, _, x, r => by
    cases x with
    | cons h1 h2 =>
      cases r with
      | cons r1 r2 => exact .cons (KeyAt.is ok h1 r1) (KeyAll.is ok h2 r2)
end
/-! ### the dict as an object of its own kind: its keys with their addresses -/
abbrev KnL := List (NestedKey × Addr)
def knE (L : KnL) : List (NestedKey × Addr × Value) := L.map fun p => (p.1, p.2, Value.bool true)
def KnO (P : Program) (w : World) (d : Addr) (L : KnL) : HO := .ext fun h => L.length ≤ sizeLine ∧ (d == sysModules) = false ∧
  ∃ o es ep, h.get? d = some o ∧ o.ExactDict ∧ o.data = .dict es ep ∧ es.toList = (knE L).map (entryOfKey (nestedKind P w)) ∧ (L.map (·.1)).Nodup
/-- each key stands at its address -/
def KnKeys (H : Hp) (L : KnL) : Prop := ∀ p ∈ L, KeyAt H p.1 (.ref p.2) ∧ p.1.depth ≤ 8
theorem KnKeys.mono {H H' : Hp} {L : KnL} (e : ∀ b xs, H b = some (.tup xs) → H' b = some (.tup xs)) (h : KnKeys H L) : KnKeys H' L := fun p hp => ⟨(h p hp).1.mono e, (h p hp).2⟩
def knHas (L : KnL) (k : NestedKey) : Bool := L.any fun p => decide (p.1 = k)
theorem knE_map (L : KnL) : (knE L).map (·.1) = L.map (·.1) := by
  unfold knE; rw [List.map_map]; rfl
theorem knE_has (L : KnL) (k : NestedKey) : (atKey (knE L) k).isSome = knHas L k := by
  induction L with
  | nil => rfl
  | cons p r ih =>
    by_cases e : p.1 = k
    · simp [knE, atKey, knHas, e]
    · simpa [knE, atKey, knHas, e] using ih
section
variable {P : Program} {w : World} {H : Hp} {h : Heap} {d : Addr} {L : KnL}
theorem kn_of (ok : HOk P w H h) (e : H d = some (KnO P w d L)) (hk : KnKeys H L) : L.length ≤ sizeLine ∧ (d == sysModules) = false ∧ h.DictOfH (nestedKind P w) d (knE L) := by
  obtain ⟨⟨z, hd, o, es, ep, h1, h2, h3, h4, h5⟩, _⟩ := (show ObjOk P w H h d (KnO P w d L) from ok d _ e)
  refine ⟨z, hd, o, es, ep, h1, h2, h3, h4, fun x hx => ?_, by rw [knE_map]; exact h5⟩
  obtain ⟨p, hp, rfl⟩ := List.mem_map.mp hx
  obtain ⟨k1, k2⟩ := hk p hp
  exact ⟨k1.is ok rfl, k2⟩
theorem kn_new {H' : Hp} {h' : Heap} {L' : KnL} (z : L'.length ≤ sizeLine) (hd : (d == sysModules) = false) (dd : h'.DictOfH (nestedKind P w) d (knE L')) : ObjOk P w H' h' d (KnO P w d L') := by
  obtain ⟨o, es, ep, h1, h2, h3, h4, _, h5⟩ := dd
  rw [knE_map] at h5
  refine ⟨⟨z, hd, o, es, ep, h1, h2, h3, h4, h5⟩, ⟨o, h1⟩, fun g1 g2 q k => ?_⟩
  obtain ⟨z', hd', o', es', ep', g1', r⟩ := q
  exact ⟨z', hd', o', es', ep', k _ g1', r⟩
theorem kn_empty (h : Heap) (hb : sysModules < h.objs.size) : ObjOk P w H (h.push { cls := .type "dict", data := .dict #[] }) h.objs.size (KnO P w h.objs.size []) :=
  kn_new (Nat.zero_le _) (beq_eq_false_iff_ne.mpr (Ne.symm (Nat.ne_of_lt hb))) ⟨_, #[], 0, Heap.get?_push_size _ rfl, ⟨rfl, rfl, rfl⟩, rfl, rfl, fun x hx => (nomatch hx), List.nodup_nil⟩
end
/-! ### the rules -/
def tKnNew (P : Program) (w : World) : TE := fun _ H Q => ∀ p, H p = none → Q (.ref p) (upd H p (KnO P w p []))
theorem pe_knNew {X : Cx} {pos : Pos} : PE X (.Dict [] [] pos) (tKnNew X.prog X.w) := ⟨fun pins s σ H Q I h =>
  wpAny_Dict_empty ⟨.ref s.heap.objs.size, _, I.laid (a := s.heap.objs.size) (o := KnO X.prog X.w s.heap.objs.size []) (t' := s.toks) (fun _ _ q => Heap.get?_push_of_some _ q) (Nat.le_refl _) (kn_empty s.heap I.big), rfl, h _ (I.hok.fresh (Nat.le_refl _))⟩⟩
/-- k not in d -/
def tKnNot (P : Program) (w : World) (ty td : TE) : TE := fun σ H Q => ty σ H fun y H1 => td σ H1 fun x H2 => ∃ (d b : Addr) (L : KnL) (k : NestedKey), x = .ref d ∧ y = .ref b ∧ H2 d = some (KnO P w d L) ∧ KnKeys H2 L ∧ KeyAt H2 k (.ref b) ∧ k.depth ≤ 8 ∧ Q (.bl (!knHas L k)) H2
theorem pc_knNot {X : Cx} {o i : Expr} {td ty : TE} (hu : X.A.units + 9 < cLine) (hi : PE X i ty) (ho : PE X o td) : PC X .NotIn i o (tKnNot X.prog X.w ty td) := by
  refine ⟨fun pins s σ H Q I h => ?_⟩
  refine thn (hi.run pins s σ H _ I h) fun iv s1 ⟨y, H1, I1, ry, q1⟩ => thn (ho.run pins s1 σ H1 _ I1 q1) fun u s2 ⟨x, H2, I2, rx, d, b, L, k, ex, ey, hd, hk, kb, kd, q2⟩ => ?_
  subst ex ey
  obtain rfl : u = Value.ref d := rx
  obtain rfl : iv = Value.ref b := ry
  obtain ⟨z, hm, dd⟩ := kn_of I2.hok hd hk
  refine wpAny_notIn_heap (knd := nestedKind X.prog X.w) (k := k) (by show X.A.units + 1 + 8 < cLine; omega) ⟨kb.is I2.hok rfl, kd⟩ hm dd ?_
  rw [knE_has]
  exact ⟨.bl (!knHas L k), H2, I2.tok _, rfl, q2⟩
/-- d[k] = True, k not there -/
def sKnPut (P : Program) (w : World) (td ty tv : TE) : TS := fun D σ H => tv σ H fun v H1 => td σ H1 fun x H2 => ty σ H2 fun y H3 => ∃ (d b : Addr) (L : KnL) (k : NestedKey), v = .bl true ∧ x = .ref d ∧ y = .ref b ∧ H3 d = some (KnO P w d L) ∧ KnKeys H3 L ∧ KeyAt H3 k (.ref b) ∧ k.depth ≤ 8 ∧
  knHas L k = false ∧ L.length < sizeLine ∧ D.nx σ (upd H3 d (KnO P w d (L ++ [(k, b)])))
theorem ps_knPut {X : Cx} {o i value : Expr} {pos pos' : Pos} {td ty tv : TE} (hu : X.A.units + 9 < cLine) (ho : PE X o td) (hi : PE X i ty) (hv : PE X value tv) (hs : swapsWith value (some (.Subscript o i pos')) pos.line X.env = pure false) :
    PS X (.Assign [.Subscript o i pos'] value pos) (sKnPut X.prog X.w td ty tv) := by
  refine ⟨fun pins s σ H D I h => ?_⟩
  refine wpAny_Assign_Subscript (thn (hv.run pins s σ H _ I h) fun r s1 ⟨v, H1, I1, rv, q1⟩ => thn (ho.run pins s1 σ H1 _ I1 q1) fun u s2 ⟨x, H2, I2, rx, q2⟩ => thn (hi.run pins s2 σ H2 _ I2 q2) fun iv s3 ⟨y, H3, I3, ry, d, b, L, k, ev, ex, ey, hd, hk, kb, kd, hn, hl, q3⟩ => ?_) hs
  subst ev ex ey
  obtain rfl : u = Value.ref d := rx
  obtain rfl : iv = Value.ref b := ry
  obtain rfl : r = Value.bool true := rv
  obtain ⟨z, hm, dd⟩ := kn_of I3.hok hd hk
  have hsz : (knE L).length ≤ sizeLine := by unfold knE; rw [List.length_map]; exact z
  have hno : atKey (knE L) k = none := by
    have := knE_has L k
    rw [hn] at this
    cases q : atKey (knE L) k with
    | none => rfl
    | some p => rw [q] at this; cases this
  refine wpAny_setItem_heap (knd := nestedKind X.prog X.w) (k := k) (hsz := hsz) (by show X.A.units + 1 + 8 < cLine; omega) ⟨kb.is I3.hok rfl, kd⟩ dd fun h' dd' hs' => ?_
  rw [storedH_new hno] at dd'
  have e : knE L ++ [(k, b, Value.bool true)] = knE (L ++ [(k, b)]) := by unfold knE; rw [List.map_append]; rfl
  rw [e] at dd'
  refine ⟨σ, _, ?_, q3⟩
  have he : ∃ q, h'.get? d = some q := let ⟨q, _, _, hq, _⟩ := dd'; ⟨q, hq⟩
  exact d_write I3 (by rw [hd]; exact True.intro) hs' he (kn_new (by rw [List.length_append, List.length_singleton]; omega) hm dd')
/-- a display of one pair, the key's tuple told by its address -/
theorem disp_one {prog : Program} {w : World} {A : Around} {E : Value → Shared → Prop} {s : Shared} {env : Env} {ek ev : Expr} {pos : Pos} {Q : Value → Shared → Prop} (hu : A.units + 8 < cLine)
    (h : wpAny (model prog w) A (evalPairs (pairTrees [some ek] [ev] env pos)) (fun vs s1 => ∃ ps : List (NestedKey × Addr × Value), CarriesH (nestedKind prog w) s1.heap vs ps ∧ s1.heap.DictOfH (nestedKind prog w) s.heap.objs.size [] ∧
      ∀ h' tk, h'.DictOfH (nestedKind prog w) s.heap.objs.size (storedAllH [] ps) → Heap.SameBut s.heap.objs.size s1.heap h' → Q (.ref s.heap.objs.size) { s1 with heap := h', toks := tk }) E
      { s with heap := s.heap.push { cls := .type "dict", data := .dict #[] } }) : wpAny (model prog w) A (eval (.Dict [some ek] [ev] pos) env) Q E s := by
  have hz := zip_pairTrees [some ek] [ev] env pos rfl rfl
  rw [arm_eval_Dict, hz, dictDisplay_pairs (pairTrees [some ek] [ev] env pos) (fun z => nomatch z) (by show 1 < 17; decide)]
  refine wpAny_bind (wpAny_standAt (wpAny_bind ?_))
  refine wpAny_subDictH (knd := nestedKind prog w) (Q := fun d s' => wpAny (model prog w) A (pure (Value.ref d)) Q E s') hu (show 1 ≤ 15 by decide) (wpAny_mono h (fun vs s1 g => ?_) fun _ _ e => e)
  obtain ⟨ps, g1, g2, g3⟩ := g
  exact ⟨ps, g1, g2, fun h' tk d1 d2 => wpAny_pure (g3 h' tk d1 d2)⟩
/-- {k: True} -/
def tKnDisp (P : Program) (w : World) (tk tv : TE) : TE := fun σ H Q => ∀ d, H d = none → tk σ (upd H d (KnO P w d [])) fun y H1 => tv σ H1 fun v H2 => ∃ (b : Addr) (k : NestedKey), y = .ref b ∧ v = .bl true ∧ H2 d = some (KnO P w d []) ∧ KeyAt H2 k (.ref b) ∧ k.depth ≤ 8 ∧
  Q (.ref d) (upd H2 d (KnO P w d [(k, b)]))
theorem pe_knDisp {X : Cx} {pos : Pos} {ek ev : Expr} {tk tv : TE} (hu : X.A.units + 9 < cLine) (hk : PE X ek tk) (hv : PE X ev tv) : PE X (.Dict [some ek] [ev] pos) (tKnDisp X.prog X.w tk tv) := by
  refine ⟨fun pins s σ H Q I q => ?_⟩
  have nw := I.hok.fresh (Nat.le_refl s.heap.objs.size)
  have I1 := I.laid (a := s.heap.objs.size) (o := KnO X.prog X.w s.heap.objs.size []) (h' := s.heap.push { cls := .type "dict", data := .dict #[] }) (t' := s.toks) (fun _ _ q => Heap.get?_push_of_some _ q) (Nat.le_refl _) (kn_empty s.heap I.big)
  refine disp_one (show X.A.units + 8 < cLine by omega) (pairTrees_cons_walk (thn (hk.run pins _ σ _ _ I1 (q _ nw)) fun u s1 ⟨x, H1, I1, rx, q1⟩ => thn (hv.run pins s1 σ H1 _ I1 q1) fun w2 s2 ⟨y, H2, I2, ry, b, k, ex, ey, hd, kb, kd, q2⟩ => ?_))
  refine pairTrees_nil_walk ?_
  subst ex ey
  obtain rfl : u = Value.ref b := rx
  obtain rfl : w2 = Value.bool true := ry
  obtain ⟨z, hm, dd⟩ := kn_of I2.hok hd (fun p hp => nomatch hp)
  refine ⟨[(k, b, Value.bool true)], ⟨rfl, rfl, ⟨kb.is I2.hok rfl, kd⟩, trivial⟩, dd, fun h' tk dd' hs' => ?_⟩
  have e : storedAllH ([] : List (NestedKey × Addr × Value)) [(k, b, Value.bool true)] = knE [(k, b)] := rfl
  rw [e] at dd'
  refine ⟨.ref s.heap.objs.size, _, ?_, rfl, q2⟩
  have he : ∃ q, h'.get? s.heap.objs.size = some q := let ⟨q, _, _, hq, _⟩ := dd'; ⟨q, hq⟩
  exact d_write I2 (by rw [hd]; exact True.intro) hs' he (kn_new (by show 1 ≤ sizeLine; decide) hm dd')
/-! ### d.pop(k), there, where keys are tuples -/
def rPopT1 : V → List V → Hp → VK → Prop := fun x xs H Q => ∃ (a : Addr) (kvs : List (List L2.Key × V)) (k : List L2.Key) (b : Addr) (v : V), x = .ref a ∧ xs = [.ref b] ∧ H a = some (.dT kvs) ∧ H b = some (.tup (k.map kV)) ∧ valV kvs k = some v ∧ Q v (upd H a (.dT (dropK kvs k)))
theorem kt_drop {H : Hp} (k : List L2.Key) {kvs : List (List L2.Key × V)} {xs : List (List L2.Key × Addr × Value)} (r : KT H kvs xs) : KT H (dropK kvs k) (withoutH xs k) := by
  induction r with
  | nil => exact .nil
  | @cons p q ps qs h t ih =>
    unfold dropK withoutH at ih ⊢
    rw [List.filter_cons, List.filter_cons]
    by_cases e : p.1 = k
    · rw [if_neg (by simp [e]), if_neg (by simp [← h.1, e])]
      exact ih
    · rw [if_pos (by simp [e]), if_pos (by simp [← h.1, e])]
      exact .cons h ih
theorem mt_popT1 {X : Cx} (hu : X.A.units + 1 < cLine) : MtR X "dict.pop" rPopT1 := by
  intro pins s σ H x xs v us Q I rx rxs h
  obtain ⟨a, kvs, k, b, v0, rfl, rfl, ha, hb, ev, q1⟩ := h
  cases rx
  obtain ⟨u1, rfl, r1⟩ := vals1 rxs
  cases r1
  obtain ⟨z, hm, xs', rel, dd⟩ := dt_of I.hok ha
  have hz : xs'.length ≤ sizeLine := by rw [← Paired.length rel]; exact z
  have r := rel.val k
  rw [ev] at r
  obtain ⟨p, hp, rv⟩ : ∃ p, atKey xs' k = some p ∧ RelV v0 p.2 := by
    cases q : atKey xs' k with
    | none =>
      rw [q] at r
      exact (show False from r).elim
    | some p =>
      rw [q] at r
      exact ⟨p, rfl, r⟩
  refine call_pop_heap (knd := tupleKind (mixKind X.prog X.w)) (k := k) (more := []) (hsz := hz) (.inl rfl) (PySem.F.args_dict_pop_2 _ _) (tupleKind_room_in1 hu) (key_of I.hok hb) hm dd hp fun h' dd' hs => ?_
  obtain ⟨o, es, ep, hq, h2, h3, h4, _, h5⟩ := dd'
  have keep : ∀ c ys, H c = some (.tup ys) → upd H a (.dT (dropK kvs k)) c = some (.tup ys) := fun c ys ec => by
    rw [upd_ne (ne_of ec ha (fun z => nomatch z))]
    exact ec
  have I2 : Inv X pins σ (upd H a (.dT (dropK kvs k))) { s with heap := h', toks := s.toks + (tupleKind (mixKind X.prog X.w)).draws k } :=
    d_write I (by rw [ha]; exact True.intro) hs ⟨o, hq⟩ ⟨Nat.le_trans (dropK_le kvs k) z, hm, _, (kt_drop k rel).keeps keep, o, es, ep, hq, h2, h3, h4, h5⟩
  exact ⟨v0, _, I2, rv, q1⟩
/-! ### min and max of three whole numbers -/
def min3 (a b c : Int) : Int := min (min a b) c
def max3 (a b c : Int) : Int := max (max a b) c
theorem min2_int (a b : Int) : nuMin2 (.int a) (.int b) = some (.int (min a b)) := by
  show some (if decide (b < a) = true then V.int b else V.int a) = _
  by_cases c : b < a
  · rw [decide_eq_true c, if_pos rfl, Int.min_eq_right (Int.le_of_lt c)]
  · rw [decide_eq_false c, if_neg Bool.false_ne_true, Int.min_eq_left (Int.not_lt.mp c)]
theorem max2_int (a b : Int) : nuMax2 (.int a) (.int b) = some (.int (max a b)) := by
  show some (if decide (a < b) = true then V.int b else V.int a) = _
  by_cases c : a < b
  · rw [decide_eq_true c, if_pos rfl, Int.max_eq_right (Int.le_of_lt c)]
  · rw [decide_eq_false c, if_neg Bool.false_ne_true, Int.max_eq_left (Int.not_lt.mp c)]
theorem cr_min3 {X : Cx} (hc : X.calm = true) : CallR X (.builtin "min") (fun xs H Q => ∃ a b c : Int, xs = [.int a, .int b, .int c] ∧ Q (.int (min3 a b c)) H) := by
  intro pins s σ H xs us Q I r h
  obtain ⟨a, b, c, rfl, q⟩ := h
  refine call_min3Nu hc pins s σ H _ us Q I r ⟨_, _, _, .int (min3 a b c), rfl, ?_, q⟩
  show (nuMin2 (.int a) (.int b)).bind (fun m => nuMin2 m (.int c)) = _
  rw [min2_int]
  exact min2_int _ _
theorem cr_max3 {X : Cx} (hc : X.calm = true) : CallR X (.builtin "max") (fun xs H Q => ∃ a b c : Int, xs = [.int a, .int b, .int c] ∧ Q (.int (max3 a b c)) H) := by
  intro pins s σ H xs us Q I r h
  obtain ⟨a, b, c, rfl, q⟩ := h
  refine call_max3Nu hc pins s σ H _ us Q I r ⟨_, _, _, .int (max3 a b c), rfl, ?_, q⟩
  show (nuMax2 (.int a) (.int b)).bind (fun m => nuMax2 m (.int c)) = _
  rw [max2_int]
  exact max2_int _ _
theorem cr_min2 {X : Cx} (hc : X.calm = true) : CallR X (.builtin "min") (fun xs H Q => ∃ a b : Int, xs = [.int a, .int b] ∧ Q (.int (min a b)) H) := by
  intro pins s σ H xs us Q I r h
  obtain ⟨a, b, rfl, q⟩ := h
  refine call_min2 hc pins s σ H _ us Q I r ⟨_, _, rfl, ?_⟩
  by_cases c : b < a
  · rw [if_pos c]
    rw [Int.min_eq_right (Int.le_of_lt c)] at q
    exact q
  · rw [if_neg c]
    rw [Int.min_eq_left (Int.not_lt.mp c)] at q
    exact q
theorem cr_max2 {X : Cx} (hc : X.calm = true) : CallR X (.builtin "max") (fun xs H Q => ∃ a b : Int, xs = [.int a, .int b] ∧ Q (.int (max a b)) H) := by
  intro pins s σ H xs us Q I r h
  obtain ⟨a, b, rfl, q⟩ := h
  refine call_max2 hc pins s σ H _ us Q I r ⟨_, _, rfl, ?_⟩
  by_cases c : b > a
  · rw [if_pos c]
    rw [Int.max_eq_right (Int.le_of_lt c)] at q
    exact q
  · rw [if_neg c]
    rw [Int.max_eq_left (Int.not_lt.mp c)] at q
    exact q
end Cr

/-! What stands where (heap predicates), what each def promises, the facts of the text. -/
namespace Cr
open PySem PySem.Spec PyProof.Rows L2 Evl Cw
/-! ### the addresses of the classes and of the two tables -/
structure Ad where
  a : Addr
  m : Addr
  s : Addr
  o : Addr
  nums : Addr
  wrow : Addr
/-! ### values -/
def natV (x : Nat) : V := .int (x : Int)
def intsV (l : List Nat) : List V := l.map natV
def wV (x : Option Nat) : V := .int (Kh419.encodeWeight x)
def encI : Option Nat → Int
  | none => 1000000
  | some c => (c : Int)
def encF (x : Option Nat) : V := .int (encI x)
def trK (t : Tr) : List Key := [.inl (t.1 : Int), .inl (t.2.1 : Int), .inl (t.2.2 : Int)]
def kvV (l : List (Tr × Nat)) : List (List Key × V) := l.map fun p => (trK p.1, natV p.2)
/-! ### objects -/
/-- a list of addresses whose objects are as told -/
def All2 {α : Type} (R : Addr → α → Prop) (as : List Addr) (xs : List α) : Prop := as.length = xs.length ∧ ∀ (i : Nat) (b : Addr) (x : α), as[i]? = some b → xs[i]? = some x → R b x
def TupI (H : Hp) (a : Addr) (r : List Nat) : Prop := H a = some (.tup (intsV r))
def MatAt (H : Hp) (a : Addr) (m : Kh420.AbstractMatrix) : Prop := ∃ rs : List Addr, H a = some (.tup (rs.map V.ref)) ∧ All2 (TupI H) rs m
def RowsAt (H : Hp) (a : Addr) (T : Kh419.Matrix) : Prop := ∃ rs : List Addr, H a = some (.lst (rs.map V.ref)) ∧ All2 (fun b r => H b = some (.lst (r.map wV))) rs T
def VecAt (H : Hp) (a : Addr) (v : Vec) : Prop := H a = some (.tup (v.map encF))
def autF (m : Aut) (wd : Addr) : List (Str × V) := [("states", natV m.n), ("symbols", natV m.k), ("weights", .ref wd), ("initial", natV m.mI), ("final", natV m.mF)]
def AutAt (ad : Ad) (H : Hp) (a : Addr) (m : Aut) : Prop := ∃ dx wd, H a = some (.ins ad.a dx (autF m wd)) ∧ H wd = some (.dT (kvV m.kvs))
/-- what may be read as a list of these numbers -/
def LstAt (K : PySem.W.Frag) (H : Hp) (a : Addr) (l : List Nat) : Prop := SqL K H a (intsV l)
def NewI (H : Hp) (p : Addr) (l : List Int) : Prop := H p = some (.lst (l.map V.int))
/-! the monoid -/
structure MA where
  x : Addr
  dx : Addr
  lm : Addr
  lb : Addr
  kd : Addr
def keyR (r : List Nat) : NestedKey := .tup (r.map fun (x : Nat) => NestedKey.num (x : Int))
def keyM (m : Kh420.AbstractMatrix) : NestedKey := .tup (m.map keyR)
def knM (L : Kh420.Elements) (as : List Addr) : KnL := (L.zip as).map fun p => (keyM p.1.1, p.2)
def partV (b : Part) : List V := [.int b.1, .int b.2.1, .int b.2.2]
def monF (A : MA) : List (Str × V) := [("matrices", .ref A.lm), ("built", .ref A.lb), ("known", .ref A.kd)]
def MonAt (P : Program) (w : World) (ad : Ad) (H : Hp) (A : MA) (L : Kh420.Elements) (B : List Part) : Prop :=
  H A.x = some (.ins ad.m A.dx (monF A)) ∧ A.lm ≠ A.lb ∧ ∃ as bs : List Addr, H A.lm = some (.lst (as.map V.ref)) ∧ H A.lb = some (.lst (bs.map V.ref)) ∧ H A.kd = some (KnO P w A.kd (knM L as)) ∧
    All2 (fun b (e : Elem) => MatAt H b e.1) as L ∧ All2 (fun b p => H b = some (.tup (partV p))) bs B
/-- all but the monoid's own lists and dict stands as it was -/
def FrM (A : MA) (H H' : Hp) : Prop := ∀ b o, H b = some o → b ≠ A.lm → b ≠ A.lb → b ≠ A.kd → H' b = some o
/-! the search -/
def wayV (b : Int × Int) : List V := [.int b.1, .int b.2]
def SeaAt (ad : Ad) (H : Hp) (x : Addr) (Q : Queue) (W : List (Int × Int)) : Prop := ∃ dx lm lw, H x = some (.ins ad.s dx [("met", .ref lm), ("ways", .ref lw)]) ∧
  ∃ as bs : List Addr, H lm = some (.lst (as.map V.ref)) ∧ H lw = some (.lst (bs.map V.ref)) ∧ All2 (fun b (e : Vec × List Nat) => VecAt H b e.1) as Q ∧ All2 (fun b p => H b = some (.tup (wayV p))) bs W
/-! the module -/
def ModAt (ad : Ad) (H : Hp) (md : Addr) (st : Option Aut) : Prop := ∃ dx, match st with
  | none => H md = some (.ins ad.o dx [("automaton", .non)])
  | some m => m.Ok ∧ ∃ a, H md = some (.ins ad.o dx [("automaton", .ref a)]) ∧ AutAt ad H a m
/-- lists, tuples, locked things -/
def plainO : HO → Bool
  | .lst _ => true
  | .tup _ => true
  | .frz _ _ => true
  | _ => false
/-- lists, tuples and locked things stand as they were -/
def Keep (H H' : Hp) : Prop := ∀ b o, H b = some o → plainO o = true → H' b = some o
/-! ### promises: their shapes -/
def sp1 (p : V → Hp → VK → Prop) : Sp := fun vs H Q _ => ∃ a, vs = [a] ∧ p a H Q
def sp2 (p : V → V → Hp → VK → Prop) : Sp := fun vs H Q _ => ∃ a b, vs = [a, b] ∧ p a b H Q
def sp3 (p : V → V → V → Hp → VK → Prop) : Sp := fun vs H Q _ => ∃ a b c, vs = [a, b, c] ∧ p a b c H Q
def sp4 (p : V → V → V → V → Hp → VK → Prop) : Sp := fun vs H Q _ => ∃ a b c d, vs = [a, b, c, d] ∧ p a b c d H Q
theorem len_sp1 (p) : ∀ vs H Q E, sp1 p vs H Q E → vs.length = 1 := fun _ _ _ _ ⟨_, e, _⟩ => by rw [e] <;> rfl
theorem len_sp2 (p) : ∀ vs H Q E, sp2 p vs H Q E → vs.length = 2 := fun _ _ _ _ ⟨_, _, e, _⟩ => by rw [e] <;> rfl
theorem len_sp3 (p) : ∀ vs H Q E, sp3 p vs H Q E → vs.length = 3 := fun _ _ _ _ ⟨_, _, _, e, _⟩ => by rw [e] <;> rfl
theorem len_sp4 (p) : ∀ vs H Q E, sp4 p vs H Q E → vs.length = 4 := fun _ _ _ _ ⟨_, _, _, _, e, _⟩ => by rw [e] <;> rfl
/-- some value of which P holds; only new things are made -/
def RetP (P : V → Hp → Prop) (H : Hp) (Q : VK) : Prop := ∀ v H2, Ex H H2 → P v H2 → Q v H2
/-- a reference to something of which R holds -/
def RefP (R : Hp → Addr → Prop) : V → Hp → Prop := fun v H => ∃ p, v = .ref p ∧ R H p
/-- a reference to a new thing of which R holds -/
def RefF (H0 : Hp) (R : Hp → Addr → Prop) : V → Hp → Prop := fun v H => ∃ p, v = .ref p ∧ H0 p = none ∧ R H p
/-- the list at p and its items are new to H -/
def FreshR (H H' : Hp) (p : Addr) : Prop := H p = none ∧ ∀ rs : List Addr, H' p = some (.lst (rs.map V.ref)) → ∀ b ∈ rs, H b = none
section
variable (P : Program) (w : World) (K : PySem.W.Frag) (ad : Ad)
/-! ### the automaton -/
def pA_init : V → V → V → Hp → VK → Prop := fun x y z H Q => ∃ (p dx : Addr) (n k : Nat), x = .ref p ∧ y = natV n ∧ z = natV k ∧ H p = some (.ins ad.a dx []) ∧ H dx = some (.own p) ∧
  ∀ H' : Hp, AutAt ad H' p (fresh n k) → (∀ b o, H b = some o → b ≠ p → H' b = some o) → Q .non H'
def sp_Automaton_init (P : Program) (w : World) (K : PySem.W.Frag) (ad : Ad) : Sp := sp3 (pA_init ad)
def pA_knows : V → V → V → V → Hp → VK → Prop := fun x y z u H Q => ∃ (a : Addr) (m : Aut) (s i j : Nat), x = .ref a ∧ y = natV s ∧ z = natV i ∧ u = natV j ∧ AutAt ad H a m ∧
  RetV (.bl (decide (s < m.k) && (decide (i < m.n) && decide (j < m.n)))) H Q
def sp_Automaton_knows (P : Program) (w : World) (K : PySem.W.Frag) (ad : Ad) : Sp := sp4 (pA_knows ad)
def pA_weight : V → V → V → V → Hp → VK → Prop := fun x y z u H Q => ∃ (a : Addr) (m : Aut) (s i j : Nat), x = .ref a ∧ y = natV s ∧ z = natV i ∧ u = natV j ∧ AutAt ad H a m ∧ RetV (wV (look m.kvs (s, i, j))) H Q
def sp_Automaton_weight_of (P : Program) (w : World) (K : PySem.W.Frag) (ad : Ad) : Sp := sp4 (pA_weight ad)
def pA_rows : V → V → Hp → VK → Prop := fun x y H Q => ∃ (a : Addr) (m : Aut) (s : Nat), x = .ref a ∧ y = natV s ∧ AutAt ad H a m ∧ m.Ok ∧ RetP (RefP fun H' p => RowsAt H' p (m.T s) ∧ FreshR H H' p) H Q
def sp_Automaton_rows_of (P : Program) (w : World) (K : PySem.W.Frag) (ad : Ad) : Sp := sp2 (pA_rows ad)
def pA_mask : V → V → Hp → VK → Prop := fun x y H Q => ∃ (a : Addr) (m : Aut) (k : Nat), x = .ref a ∧ y = natV k ∧ AutAt ad H a m ∧ m.Ok ∧ RetV (.bl (decide (k < 2 ^ m.n))) H Q
def sp_Automaton_is_mask (P : Program) (w : World) (K : PySem.W.Frag) (ad : Ad) : Sp := sp2 (pA_mask ad)
def pA_word : V → V → Hp → VK → Prop := fun x y H Q => ∃ (a l : Addr) (m : Aut) (ws : List Nat), x = .ref a ∧ y = .ref l ∧ AutAt ad H a m ∧ LstAt K H l ws ∧ ws.length ≤ 1000 ∧ RetV (.bl (Kh419.isWord m.abs ws)) H Q
def sp_Automaton_is_word (P : Program) (w : World) (K : PySem.W.Frag) (ad : Ad) : Sp := sp2 (pA_word K ad)
def pA_first : V → Hp → VK → Prop := fun x H Q => ∃ (a : Addr) (m : Aut), x = .ref a ∧ AutAt ad H a m ∧ m.Ok ∧ RetP (RefP fun H' p => VecAt H' p (Kh420.initialVector m.abs)) H Q
def sp_Automaton_first_costs (P : Program) (w : World) (K : PySem.W.Frag) (ad : Ad) : Sp := sp1 (pA_first ad)
def pA_acc : V → V → Hp → VK → Prop := fun x y H Q => ∃ (a c : Addr) (m : Aut) (v : Vec), x = .ref a ∧ y = .ref c ∧ AutAt ad H a m ∧ m.Ok ∧ VecAt H c v ∧ v.length = m.n ∧ Below 999999 v ∧ RetV (encF (Kh420.vectorCost m.abs v)) H Q
def sp_Automaton_accepted_at (P : Program) (w : World) (K : PySem.W.Frag) (ad : Ad) : Sp := sp2 (pA_acc ad)
def p_next : V → V → V → Hp → VK → Prop := fun x y z H Q => ∃ (r c : Addr) (m : Aut) (s : Nat) (v : Vec) (B : Nat), x = .ref r ∧ y = .ref c ∧ z = .int ((B : Int) + 1) ∧ m.Ok ∧ s < m.k ∧ RowsAt H r (m.T s) ∧ VecAt H c v ∧ v.length = m.n ∧ Below 999999 v ∧ B + 1 < 1000000 ∧
  RetP (RefP fun H' p => VecAt H' p (Kh420.stepVector m.abs B v s)) H Q
def sp_next_costs (P : Program) (w : World) (K : PySem.W.Frag) (ad : Ad) : Sp := sp3 p_next
def p_cost : V → V → Hp → VK → Prop := fun x y H Q => ∃ (a l : Addr) (m : Aut) (ws : List Nat), x = .ref a ∧ y = .ref l ∧ AutAt ad H a m ∧ m.Ok ∧ LstAt K H l ws ∧ (∀ s ∈ ws, s < m.k) ∧ ws.length ≤ 1000 ∧ RetV (wV (Kh419.cost m.abs ws)) H Q
def sp_cost_of (P : Program) (w : World) (K : PySem.W.Frag) (ad : Ad) : Sp := sp2 (p_cost K ad)
/-! ### matrices -/
def p_entry : V → Hp → VK → Prop := fun x H Q => ∃ c : Option Nat, x = wV c ∧ RetV (natV (Kh420.abstractWeight c)) H Q
def sp_entry_of (P : Program) (w : World) (K : PySem.W.Frag) (ad : Ad) : Sp := sp1 p_entry
def p_matof : V → Hp → VK → Prop := fun x H Q => ∃ (r : Addr) (T : Kh419.Matrix), x = .ref r ∧ RowsAt H r T ∧ T.length ≤ 3 ∧ (∀ q ∈ T, q.length ≤ 3) ∧ RetP (RefP fun H' p => MatAt H' p (Kh420.abstractOf T)) H Q
def sp_matrix_of (P : Program) (w : World) (K : PySem.W.Frag) (ad : Ad) : Sp := sp1 p_matof
def p_unit : V → Hp → VK → Prop := fun x H Q => ∃ n : Nat, x = natV n ∧ n ≤ 3 ∧ RetP (RefP fun H' p => MatAt H' p (Kh420.abstractOf (Kh419.identity n))) H Q
def sp_unit_of (P : Program) (w : World) (K : PySem.W.Frag) (ad : Ad) : Sp := sp1 p_unit
def p_product : V → V → Hp → VK → Prop := fun x y H Q => ∃ (a b : Addr) (n : Nat) (M N : Kh420.AbstractMatrix), x = .ref a ∧ y = .ref b ∧ 1 ≤ n ∧ n ≤ 3 ∧ MatAt H a M ∧ MatAt H b N ∧ MOk n M ∧ MOk n N ∧ RetP (RefP fun H' p => MatAt H' p (Kh420.multiply n M N)) H Q
def sp_product (P : Program) (w : World) (K : PySem.W.Frag) (ad : Ad) : Sp := sp2 p_product
def p_idem : V → Hp → VK → Prop := fun x H Q => ∃ (a : Addr) (n : Nat) (M : Kh420.AbstractMatrix), x = .ref a ∧ 1 ≤ n ∧ n ≤ 3 ∧ MatAt H a M ∧ MOk n M ∧ RetV (.bl (Kh420.isIdempotent n M)) H Q
def sp_is_idempotent (P : Program) (w : World) (K : PySem.W.Frag) (ad : Ad) : Sp := sp1 p_idem
def p_looped : V → Hp → VK → Prop := fun x H Q => ∃ c : Nat, x = natV c ∧ RetV (natV (Kh420.repeatedLoop c)) H Q
def sp_looped (P : Program) (w : World) (K : PySem.W.Frag) (ad : Ad) : Sp := sp1 p_looped
def p_stab : V → Hp → VK → Prop := fun x H Q => ∃ (a : Addr) (n : Nat) (M : Kh420.AbstractMatrix), x = .ref a ∧ 1 ≤ n ∧ n ≤ 3 ∧ MatAt H a M ∧ MOk n M ∧ RetP (RefP fun H' p => MatAt H' p (Kh420.stabilize n M)) H Q
def sp_stabilized (P : Program) (w : World) (K : PySem.W.Frag) (ad : Ad) : Sp := sp1 p_stab
def p_sym : V → V → Hp → VK → Prop := fun x y H Q => ∃ (a : Addr) (m : Aut) (s : Nat), x = .ref a ∧ y = natV s ∧ AutAt ad H a m ∧ m.Ok ∧ RetP (RefP fun H' p => MatAt H' p (Kh420.abstractOf (m.T s))) H Q
def sp_symbol_matrix (P : Program) (w : World) (K : PySem.W.Frag) (ad : Ad) : Sp := sp2 (p_sym ad)
def p_word : V → V → Hp → VK → Prop := fun x y H Q => ∃ (a l : Addr) (m : Aut) (ws : List Nat), x = .ref a ∧ y = .ref l ∧ AutAt ad H a m ∧ m.Ok ∧ LstAt K H l ws ∧ (∀ s ∈ ws, s < m.k) ∧ ws.length ≤ 1000 ∧ RetP (RefP fun H' p => MatAt H' p (Kh420.abstractMatrixOfWord m.abs ws)) H Q
def sp_word_matrix (P : Program) (w : World) (K : PySem.W.Frag) (ad : Ad) : Sp := sp2 (p_word K ad)
def p_descr : V → Hp → VK → Prop := fun x H Q => ∃ (a : Addr) (n : Nat) (M : Kh420.AbstractMatrix), x = .ref a ∧ n ≤ 3 ∧ MatAt H a M ∧ MOk n M ∧ RetP (RefF H fun H' p => H' p = some (.lst (natV (n * n) :: intsV M.flatten))) H Q
def sp_described (P : Program) (w : World) (K : PySem.W.Frag) (ad : Ad) : Sp := sp1 p_descr
def p_accept : V → V → Hp → VK → Prop := fun x y H Q => ∃ (a b : Addr) (m : Aut) (M : Kh420.AbstractMatrix), x = .ref a ∧ y = .ref b ∧ AutAt ad H a m ∧ m.Ok ∧ MatAt H b M ∧ MOk m.n M ∧ RetV (natV (Kh420.acceptance m.abs M)) H Q
def sp_acceptance (P : Program) (w : World) (K : PySem.W.Frag) (ad : Ad) : Sp := sp2 (p_accept ad)
/-! ### expressions -/
def p_isexpr : V → V → Hp → VK → Prop := fun x y H Q => ∃ (a l : Addr) (m : Aut) (ws : List Nat), x = .ref a ∧ y = .ref l ∧ AutAt ad H a m ∧ m.Ok ∧ LstAt K H l ws ∧ RetV (.bl (isExpr m.k ws)) H Q
def sp_is_expression (P : Program) (w : World) (K : PySem.W.Frag) (ad : Ad) : Sp := sp2 (p_isexpr K ad)
def p_value : V → V → Hp → VK → Prop := fun x y H Q => ∃ (a l : Addr) (m : Aut) (ws : List Nat) (e : Kh420.Expression), x = .ref a ∧ y = .ref l ∧ AutAt ad H a m ∧ m.Ok ∧ LstAt K H l ws ∧ ws.length ≤ 1000 ∧ ws.foldl pstep (some []) = some [e] ∧ (∀ s ∈ ws, s < 2 → s < m.k) ∧
  RetP (RefP fun H' p => MatAt H' p ((Kh420.matrixOf m.abs e).getD [])) H Q
def sp_value_of (P : Program) (w : World) (K : PySem.W.Frag) (ad : Ad) : Sp := sp2 (p_value K ad)
def p_length : V → V → Hp → VK → Prop := fun x y H Q => ∃ (l : Addr) (ws : List Nat) (count : Nat) (e : Kh420.Expression), x = .ref l ∧ y = natV count ∧ LstAt K H l ws ∧ ws.length ≤ 1000 ∧ count ≤ 4 ∧ ws.foldl pstep (some []) = some [e] ∧ RetV (natV (cutLen count e)) H Q
def sp_length_of (P : Program) (w : World) (K : PySem.W.Frag) (ad : Ad) : Sp := sp2 (p_length K)
def p_unrolled : V → V → Hp → VK → Prop := fun x y H Q => ∃ (l : Addr) (ws : List Nat) (count : Nat) (e : Kh420.Expression), x = .ref l ∧ y = natV count ∧ LstAt K H l ws ∧ ws.length ≤ 1000 ∧ count ≤ 4 ∧ ws.foldl pstep (some []) = some [e] ∧ RetP (RefP fun H' p => H' p = some (.lst (intsV (cut count e)))) H Q
def sp_unrolled (P : Program) (w : World) (K : PySem.W.Frag) (ad : Ad) : Sp := sp2 (p_unrolled K)
/-! ### the monoid -/
def pM_put : V → V → V → Hp → VK → Prop := fun x y z H Q => ∃ (A : MA) (L : Kh420.Elements) (B : List Part) (a b : Addr) (e : Elem) (pt : Part), x = .ref A.x ∧ y = .ref a ∧ z = .ref b ∧ MonAt P w ad H A L B ∧ MatAt H a e.1 ∧ H b = some (.tup (partV pt)) ∧ L.length < 1000 ∧ B.length = L.length ∧ (L.map (·.1)).Nodup ∧
  ∀ H' : Hp, MonAt P w ad H' A (putE (L, B) e pt).1 (putE (L, B) e pt).2 → FrM A H H' → Q .non H'
def sp_Monoid_put (P : Program) (w : World) (K : PySem.W.Frag) (ad : Ad) : Sp := sp3 (pM_put P w ad)
def pM_go : V → V → Hp → VK → Prop := fun x y H Q => ∃ (A : MA) (m : Aut) (L : Kh420.Elements) (B : List Part) (i : Nat) (cur : Elem), x = .ref A.x ∧ y = natV i ∧ m.Ok ∧ MonAt P w ad H A L B ∧ L[i]? = some cur ∧ L.length ≤ 100 ∧ EInv m.n m.k L ∧ Built L B ∧
  ∀ (H' : Hp) (B' : List Part), MonAt P w ad H' A (growE m.abs i cur L) B' → EInv m.n m.k (growE m.abs i cur L) → Built (growE m.abs i cur L) B' → FrM A H H' → Q .non H'
def sp_Monoid_go_on (P : Program) (w : World) (K : PySem.W.Frag) (ad : Ad) : Sp := sp2 (pM_go P w ad)
def pM_init : V → V → Hp → VK → Prop := fun x y H Q => ∃ (p dx a : Addr) (m : Aut), x = .ref p ∧ y = .ref a ∧ H p = some (.ins ad.m dx []) ∧ H dx = some (.own p) ∧ AutAt ad H a m ∧ m.Ok ∧ p ≠ a ∧
  ∀ (H' : Hp) (A : MA) (B : List Part), A.x = p → MonAt P w ad H' A (Kh420.monoid m.abs) B → EInv m.n m.k (Kh420.monoid m.abs) → Built (Kh420.monoid m.abs) B → (Kh420.monoid m.abs).length ≤ 400 → (∀ b o, H b = some o → b ≠ p → H' b = some o) → Q .non H'
def sp_Monoid_init (P : Program) (w : World) (K : PySem.W.Frag) (ad : Ad) : Sp := sp2 (pM_init P w ad)
def pM_large : V → Hp → VK → Prop := fun x H Q => ∃ (A : MA) (L : Kh420.Elements) (B : List Part), x = .ref A.x ∧ MonAt P w ad H A L B ∧ RetV (.bl (decide (100 < L.length))) H Q
def sp_Monoid_is_too_large (P : Program) (w : World) (K : PySem.W.Frag) (ad : Ad) : Sp := sp1 (pM_large P w ad)
def pM_acc : V → V → Hp → VK → Prop := fun x y H Q => ∃ (A : MA) (a : Addr) (m : Aut) (L : Kh420.Elements) (B : List Part), x = .ref A.x ∧ y = .ref a ∧ MonAt P w ad H A L B ∧ AutAt ad H a m ∧ m.Ok ∧ L.length ≤ 1000 ∧ EInv m.n m.k L ∧ RetP (RefP fun H' p => H' p = some (.lst (intsV (accs m.abs L)))) H Q
def sp_Monoid_acceptances (P : Program) (w : World) (K : PySem.W.Frag) (ad : Ad) : Sp := sp2 (pM_acc P w ad)
def pM_post : V → V → Hp → VK → Prop := fun x y H Q => ∃ (A : MA) (L : Kh420.Elements) (B : List Part) (i : Nat) (e : Elem), x = .ref A.x ∧ y = natV i ∧ MonAt P w ad H A L B ∧ Built L B ∧ L[i]? = some e ∧ (Kh420.toPostfix e.2).length ≤ 10000000 ∧ RetP (RefP fun H' p => H' p = some (.lst (intsV (Kh420.toPostfix e.2)))) H Q
def sp_Monoid_postfix (P : Program) (w : World) (K : PySem.W.Frag) (ad : Ad) : Sp := sp2 (pM_post P w ad)
/-! ### the search -/
def pS_init : V → V → V → Hp → VK → Prop := fun x y z H Q => ∃ (p dx a : Addr) (m : Aut) (B : Nat), x = .ref p ∧ y = .ref a ∧ z = .int ((B : Int) + 1) ∧ H p = some (.ins ad.s dx []) ∧ H dx = some (.own p) ∧ AutAt ad H a m ∧ m.Ok ∧ p ≠ a ∧ B ≤ 12 ∧
  ∀ (H' : Hp) (W : List (Int × Int)), SeaAt ad H' p (rowsOf m.abs B) W → Ways (rowsOf m.abs B) W → (∀ b o, H b = some o → b ≠ p → H' b = some o) → Q .non H'
def sp_Search_init (P : Program) (w : World) (K : PySem.W.Frag) (ad : Ad) : Sp := sp3 (pS_init ad)
def pS_word : V → V → Hp → VK → Prop := fun x y H Q => ∃ (p : Addr) (Qu : Queue) (W : List (Int × Int)) (i : Nat) (e : Vec × List Nat), x = .ref p ∧ y = natV i ∧ SeaAt ad H p Qu W ∧ Ways Qu W ∧ Qu.length ≤ 100000 ∧ Qu[i]? = some e ∧ RetP (RefP fun H' p => H' p = some (.lst (intsV e.2))) H Q
def sp_Search_word_to (P : Program) (w : World) (K : PySem.W.Frag) (ad : Ad) : Sp := sp2 (pS_word ad)
def p_first : V → V → Hp → VK → Prop := fun x y H Q => ∃ (a : Addr) (m : Aut) (b : Nat), x = .ref a ∧ y = natV b ∧ AutAt ad H a m ∧ m.Ok ∧ b ≤ 12 ∧
  RetP (fun v H' => match Kh420.firstWordAbove m.abs b with
    | none => v = .non
    | some ws => ∃ p, v = .ref p ∧ H' p = some (.lst (intsV ws)) ∧ ws.length ≤ 100000) H Q
def sp_first_above (P : Program) (w : World) (K : PySem.W.Frag) (ad : Ad) : Sp := sp2 (p_first ad)
def p_great : V → V → Hp → VK → Prop := fun x y H Q => ∃ (a : Addr) (m : Aut), x = .ref a ∧ y = .int 13 ∧ AutAt ad H a m ∧ m.Ok ∧ RetV (natV (greatest m.abs (rowsOf m.abs 12))) H Q
def sp_greatest_cost (P : Program) (w : World) (K : PySem.W.Frag) (ad : Ad) : Sp := sp2 (p_great ad)
/-! ### the module -/
/-- an answer as the specification has it -/
def resV (r : Kh420.Result) : List Int := r.status :: r.values
/-- what an operation on an existing automaton gives back and leaves -/
def Doing (H : Hp) (md : Addr) (m : Aut) (c : Kh420.Call) (Q : VK) : Prop := ∀ (H' : Hp) (p : Addr) (m' : Aut), Keep H H' → H p = none → NewI H' p (resV (Kh420.apply m.abs c).2) → ModAt ad H' md (some m') → m'.abs = (Kh420.apply m.abs c).1 → Q (.ref p) H'
def pO_init : V → Hp → VK → Prop := fun x H Q => ∃ p dx : Addr, x = .ref p ∧ H p = some (.ins ad.o dx []) ∧ H dx = some (.own p) ∧ ∀ H' : Hp, ModAt ad H' p none → (∀ b o, H b = some o → b ≠ p → H' b = some o) → Q .non H'
def sp_Module_init (P : Program) (w : World) (K : PySem.W.Frag) (ad : Ad) : Sp := sp1 (pO_init ad)
def pO_create : V → V → V → Hp → VK → Prop := fun x y z H Q => ∃ (md : Addr) (st : Option Aut) (n k : Nat), x = .ref md ∧ y = natV n ∧ z = natV k ∧ ModAt ad H md st ∧
  ∀ (H' : Hp) (p : Addr) (st' : Option Aut), Keep H H' → H p = none → NewI H' p (resV (Kh420.execute (st.map Aut.abs) (.create n k)).2) → ModAt ad H' md st' → st'.map Aut.abs = (Kh420.execute (st.map Aut.abs) (.create n k)).1 → Q (.ref p) H'
def sp_Module_create (P : Program) (w : World) (K : PySem.W.Frag) (ad : Ad) : Sp := sp3 (pO_create ad)
def pO_set : V → V → V → Hp → VK → Prop := fun x y z H Q => ∃ (md b : Addr) (m : Aut) (s i j c : Nat), x = .ref md ∧ y = .ref b ∧ z = natV c ∧ ModAt ad H md (some m) ∧ H b = some (.tup [natV s, natV i, natV j]) ∧ Doing ad H md m (.setTransition s i j c) Q
def sp_Module_set_transition (P : Program) (w : World) (K : PySem.W.Frag) (ad : Ad) : Sp := sp3 (pO_set ad)
def pO_remove : V → V → Hp → VK → Prop := fun x y H Q => ∃ (md b : Addr) (m : Aut) (s i j : Nat), x = .ref md ∧ y = .ref b ∧ ModAt ad H md (some m) ∧ H b = some (.tup [natV s, natV i, natV j]) ∧ Doing ad H md m (.removeTransition s i j) Q
def sp_Module_remove_transition (P : Program) (w : World) (K : PySem.W.Frag) (ad : Ad) : Sp := sp2 (pO_remove ad)
def pO_mask : V → V → V → Hp → VK → Prop := fun x y z H Q => ∃ (md : Addr) (m : Aut) (ini : Bool) (k : Nat), x = .ref md ∧ y = .bl ini ∧ z = natV k ∧ ModAt ad H md (some m) ∧ Doing ad H md m (if ini = true then .setInitial k else .setFinal k) Q
def sp_Module_set_mask (P : Program) (w : World) (K : PySem.W.Frag) (ad : Ad) : Sp := sp3 (pO_mask ad)
def wordCall (number : Nat) (ws : List Nat) : Kh420.Call := if number = 17 then .cost ws else if number = 5 then .abstractMatrix ws else if number = 6 then .isIdempotent ws else .stabilize ws
def pO_word : V → V → V → Hp → VK → Prop := fun x y z H Q => ∃ (md l : Addr) (m : Aut) (number : Nat) (ws : List Nat), x = .ref md ∧ y = natV number ∧ z = .ref l ∧ ModAt ad H md (some m) ∧ LstAt K H l ws ∧ ws.length ≤ 20 ∧ Doing ad H md m (wordCall number ws) Q
def sp_Module_about_word (P : Program) (w : World) (K : PySem.W.Frag) (ad : Ad) : Sp := sp3 (pO_word K ad)
def pO_eval : V → V → Hp → VK → Prop := fun x y H Q => ∃ (md l : Addr) (m : Aut) (ws : List Nat), x = .ref md ∧ y = .ref l ∧ ModAt ad H md (some m) ∧ LstAt K H l ws ∧ ws.length ≤ 20 ∧ Doing ad H md m (.evaluateExpression ws) Q
def sp_Module_evaluate (P : Program) (w : World) (K : PySem.W.Frag) (ad : Ad) : Sp := sp2 (pO_eval K ad)
def pO_unroll : V → V → V → V → Hp → VK → Prop := fun x y z u H Q => ∃ (md l : Addr) (m : Aut) (number count : Nat) (ws : List Nat), x = .ref md ∧ y = natV number ∧ z = natV count ∧ u = .ref l ∧ ModAt ad H md (some m) ∧ LstAt K H l ws ∧ ws.length ≤ 20 ∧
  Doing ad H md m (if number = 9 then .unrollExpression count ws else .costsOfUnrollings count ws) Q
def sp_Module_unroll (P : Program) (w : World) (K : PySem.W.Frag) (ad : Ad) : Sp := sp4 (pO_unroll K ad)
def monCall (number index : Nat) : Kh420.Call := if number = 11 then .monoidSize else if number = 12 then .monoidElement index else if number = 18 then .countAcceptingElements else if number = 19 then .countFreeElements else if number = 13 then .isLimited else if number = 14 then .unlimitedWitness else .leastBound
def pO_monoid : V → V → V → Hp → VK → Prop := fun x y z H Q => ∃ (md : Addr) (m : Aut) (number index : Nat), x = .ref md ∧ y = natV number ∧ z = natV index ∧ ModAt ad H md (some m) ∧ (resV (Kh420.apply m.abs (monCall number index)).2).length ≤ 10000000 ∧ Doing ad H md m (monCall number index) Q
def sp_Module_about_monoid (P : Program) (w : World) (K : PySem.W.Frag) (ad : Ad) : Sp := sp3 (pO_monoid ad)
def pO_witness : V → V → V → Hp → VK → Prop := fun x y z H Q => ∃ (A : MA) (L : Kh420.Elements) (B : List Part) (i : Nat) (e : Elem), y = .ref A.x ∧ z = natV i ∧ MonAt P w ad H A L B ∧ Built L B ∧ L[i]? = some e ∧ (Kh420.toPostfix e.2).length ≤ 10000000 ∧
  RetP (RefF H fun H' p => H' p = some (.lst (natV (Kh420.toPostfix e.2).length :: intsV (Kh420.toPostfix e.2)))) H Q
def sp_Module_witness (P : Program) (w : World) (K : PySem.W.Frag) (ad : Ad) : Sp := sp3 (pO_witness P w ad)
def pO_least : V → Hp → VK → Prop := fun x H Q => ∃ (md : Addr) (m : Aut), x = .ref md ∧ ModAt ad H md (some m) ∧ RetP (RefF H fun H' p => NewI H' p [if greatest m.abs (rowsOf m.abs 12) ≤ 12 then (greatest m.abs (rowsOf m.abs 12) : Int) else -34]) H Q
def sp_Module_least_bound (P : Program) (w : World) (K : PySem.W.Frag) (ad : Ad) : Sp := sp1 (pO_least ad)
def pO_above : V → V → Hp → VK → Prop := fun x y H Q => ∃ (md : Addr) (m : Aut) (b : Nat), x = .ref md ∧ y = natV b ∧ ModAt ad H md (some m) ∧ Doing ad H md m (.firstWordAbove b) Q
def sp_Module_word_above (P : Program) (w : World) (K : PySem.W.Frag) (ad : Ad) : Sp := sp2 (pO_above ad)
def pO_status : V → Hp → VK → Prop := fun x H Q => ∃ (md : Addr) (m : Aut), x = .ref md ∧ ModAt ad H md (some m) ∧ Doing ad H md m .status Q
def sp_Module_status (P : Program) (w : World) (K : PySem.W.Frag) (ad : Ad) : Sp := sp1 (pO_status ad)
/-! ### the desk -/
/-- the call that a number, its whole numbers and its row stand for -/
def callOf (number : Nat) (g : List Nat) (row : List Nat) : Kh420.Call := match number with
  | 0 => .create (g.getD 0 0) (g.getD 1 0)
  | 1 => .setTransition (g.getD 0 0) (g.getD 1 0) (g.getD 2 0) (g.getD 3 0)
  | 2 => .removeTransition (g.getD 0 0) (g.getD 1 0) (g.getD 2 0)
  | 3 => .setInitial (g.getD 0 0)
  | 4 => .setFinal (g.getD 0 0)
  | 5 => .abstractMatrix row
  | 6 => .isIdempotent row
  | 7 => .stabilize row
  | 8 => .evaluateExpression row
  | 9 => .unrollExpression (g.getD 0 0) row
  | 10 => .costsOfUnrollings (g.getD 0 0) row
  | 11 => .monoidSize
  | 12 => .monoidElement (g.getD 0 0)
  | 13 => .isLimited
  | 14 => .unlimitedWitness
  | 15 => .leastBound
  | 16 => .firstWordAbove (g.getD 0 0)
  | 17 => .cost row
  | 18 => .countAcceptingElements
  | 19 => .countFreeElements
  | _ => .status
def numbers : List Nat := [2, 4, 3, 1, 1, 0, 0, 0, 0, 1, 1, 0, 1, 0, 0, 0, 1, 0, 0, 0, 0]
def withRow : List Nat := [5, 6, 7, 8, 9, 10, 17]
def p_done : V → V → V → V → Hp → VK → Prop := fun x y z u H Q => ∃ (md gl l : Addr) (st : Option Aut) (number : Nat) (g row : List Nat), x = .ref md ∧ y = natV number ∧ z = .ref gl ∧ u = .ref l ∧ ModAt ad H md st ∧ number ≤ 20 ∧ LstAt K H gl g ∧ g.length = numbers.getD number 0 ∧ LstAt K H l row ∧ row.length ≤ 20 ∧
  (resV (Kh420.execute (st.map Aut.abs) (callOf number g row)).2).length ≤ 10000000 ∧
  ∀ (H' : Hp) (p : Addr) (st' : Option Aut), Keep H H' → H p = none → NewI H' p (resV (Kh420.execute (st.map Aut.abs) (callOf number g row)).2) → ModAt ad H' md st' → st'.map Aut.abs = (Kh420.execute (st.map Aut.abs) (callOf number g row)).1 → Q (.ref p) H'
def sp_done (P : Program) (w : World) (K : PySem.W.Frag) (ad : Ad) : Sp := sp4 (p_done K ad)
def p_answers : V → Hp → VK → Prop := fun x H Q => ∃ (l : Addr) (ns : List Int), x = .ref l ∧ SqL K H l (ns.map V.int) ∧ ns.length ≤ 1400 ∧ PyKh420.answers_asked ns = true ∧ ∀ (H' : Hp) (p : Addr), NewI H' p (PyKh420.answers ns) → Q (.ref p) H'
def sp_answers (P : Program) (w : World) (K : PySem.W.Frag) (ad : Ad) : Sp := sp1 (p_answers K)
end
/-! ### the facts of the text -/
structure Txt (K : PySem.W.Frag) (mg : Str → Option Value) (ad : Ad) : Prop where
  cl_Automaton : Cls K ad.a
  cl_Monoid : Cls K ad.m
  cl_Search : Cls K ad.s
  cl_Module : Cls K ad.o
  nA1 : NoAttr K ad.a "states"
  nA2 : NoAttr K ad.a "symbols"
  nA3 : NoAttr K ad.a "weights"
  nA4 : NoAttr K ad.a "initial"
  nA5 : NoAttr K ad.a "final"
  nM1 : NoAttr K ad.m "matrices"
  nM2 : NoAttr K ad.m "built"
  nM3 : NoAttr K ad.m "known"
  nS1 : NoAttr K ad.s "met"
  nS2 : NoAttr K ad.s "ways"
  nO1 : NoAttr K ad.o "automaton"
  n_len : mg "len" = none
  n_range : mg "range" = none
  n_min : mg "min" = none
  n_max : mg "max" = none
  n_all : mg "all" = none
  n_tuple : mg "tuple" = none
  n_list : mg "list" = none
  n_enumerate : mg "enumerate" = none
  c_FAR : ∃ t, mg "FAR" = some (.int 1000000 t)
  c_NONE : ∃ t, mg "NONE" = some (.int 3 t)
  c_JOIN : ∃ t, mg "JOIN" = some (.int 8 t)
  c_AGAIN : ∃ t, mg "AGAIN" = some (.int 9 t)
  c_TOO_LONG : ∃ t, mg "TOO_LONG" = some (.int 61 t)
  c_MOST : ∃ t, mg "MOST" = some (.int 100 t)
  c_MOST_WEIGHT : ∃ t, mg "MOST_WEIGHT" = some (.int 9 t)
  c_MOST_COUNT : ∃ t, mg "MOST_COUNT" = some (.int 4 t)
  c_MOST_BOUND : ∃ t, mg "MOST_BOUND" = some (.int 9 t)
  c_MOST_LEAST : ∃ t, mg "MOST_LEAST" = some (.int 12 t)
  g_NUMBERS : mg "NUMBERS" = some (.ref ad.nums)
  g_WITH_ROW : mg "WITH_ROW" = some (.ref ad.wrow)
  t_nums : ∀ H, SqT K H ad.nums (intsV numbers)
  t_wrow : ∀ H, SqT K H ad.wrow (intsV withRow)
/-- where a def stands; a method; a class's __init__ -/
def FunAt (K : PySem.W.Frag) (mg : Str → Option Value) (x qual : Str) (st : Stmt) (ps : List Str) : Prop := ∃ f fd, mg x = some (.ref f) ∧ Fun K x qual st f fd ∧ Binds K fd ps []
def MethAt (K : PySem.W.Frag) (C : Addr) (m qual : Str) (st : Stmt) (ps : List Str) : Prop := ∃ f fd, Meth K C m f ∧ Fun K m qual st f fd ∧ Binds K fd ps []
def InitAt (K : PySem.W.Frag) (mg : Str → Option Value) (cls : Str) (C : Addr) (qual : Str) (st : Stmt) (ps : List Str) : Prop := ∃ f fd, mg cls = some (.ref C) ∧ Mk K C f ∧ Fun K "__init__" qual st f fd ∧ Binds K fd ps []
section
variable (P : Program) (w : World) (K : PySem.W.Frag) (mg : Str → Option Value) (base : Heap)
def KF (x : Str) (ps : List Str) (k : Nat) (sp : Sp) : Prop := ∃ f fd, mg x = some (.ref f) ∧ PySem.W.keepIn K (.ref f) = true ∧ Binds K fd ps [] ∧ FnOk P w K mg base CX0 k f fd ps sp
def KM (C : Addr) (m : Str) (ps : List Str) (k : Nat) (sp : Sp) : Prop := ∃ f fd, Meth K C m f ∧ Binds K fd ps [] ∧ FnOk P w K mg base CX0 k f fd ps sp
def KI (cls : Str) (C : Addr) (ps : List Str) (k : Nat) (sp : Sp) : Prop := ∃ f fd, mg cls = some (.ref C) ∧ Mk K C f ∧ Binds K fd ps [] ∧ FnOk P w K mg base CX0 k f fd ps sp
end
theorem pe_gi {X : Cx} {x : Str} {n : Int} {pos : Pos} (hg : Gl X x) (hm : ∃ t, X.mg x = some (.int n t)) (hd : (x == ("__debug__" : Str)) = false := by decide) : PE X (.Name x pos) (tC (.int n)) :=
  let ⟨t, h⟩ := hm; pe_glob hg h ⟨t, rfl⟩ hd
theorem hu9_of {A : Around} {k : Nat} (hr : Room k A) : A.units + 9 < cLine := by
  have := hr.units
  omega
/-! ### the readings' operators -/
abbrev rNeg : V → Hp → VK → Prop := rU fun i => .int (-i)
abbrev rPlus : R2 := rI0 fun i j => .int (i + j)
abbrev rMinus : R2 := rI0 fun i j => .int (i - j)
abbrev rTimes : R2 := rI CMul fun i j => .int (i * j)
abbrev rShl : R2 := rI CPow fun i j => .int (i * 2 ^ j.toNat)
abbrev rShr : R2 := rI (fun _ j => 0 ≤ j) fun i j => .int (i / 2 ^ j.toNat)
abbrev rBand : R2 := rI0 fun i j => .int (Builtin.bitAnd i j)
abbrev rLt : R2 := rI0 fun i j => .bl (decide (i < j))
abbrev rLe : R2 := rI0 fun i j => .bl (decide (i ≤ j))
abbrev rGt : R2 := rI0 fun i j => .bl (decide (j < i))
abbrev rGe : R2 := rI0 fun i j => .bl (decide (j ≤ i))
abbrev rIsN : R2 := fun x y H Q => y = .non ∧ Q (.bl (decide (x = .non))) H
abbrev rMin2 : List V → Hp → VK → Prop := fun xs H Q => ∃ a b : Int, xs = [.int a, .int b] ∧ Q (.int (min a b)) H
abbrev rMax2 : List V → Hp → VK → Prop := fun xs H Q => ∃ a b : Int, xs = [.int a, .int b] ∧ Q (.int (max a b)) H
abbrev rMin3 : List V → Hp → VK → Prop := fun xs H Q => ∃ a b c : Int, xs = [.int a, .int b, .int c] ∧ Q (.int (min3 a b c)) H
abbrev rMax3 : List V → Hp → VK → Prop := fun xs H Q => ∃ a b c : Int, xs = [.int a, .int b, .int c] ∧ Q (.int (max3 a b c)) H
abbrev rTupOf (K : PySem.W.Frag) : List V → Hp → VK → Prop := fun xs H Q => ∃ p ys, xs = [.ref p] ∧ ((SqL K H p ys ∧ ∀ l, H l = none → Q (.ref l) (upd H l (.tup ys))) ∨ (SqT K H p ys ∧ Q (.ref p) H))
abbrev rInsert : V → List V → Hp → VK → Prop := fun x vs H Q => ∃ (l : Addr) (xs : List V) (i : Int) (y : V), x = .ref l ∧ vs = [.int i, y] ∧ H l = some (.lst xs) ∧ xs.length < sizeLine ∧ 0 ≤ i ∧ i < 2 ^ 63 ∧ Q .non (upd H l (.lst (xs.take i.toNat ++ [y] ++ xs.drop i.toNat)))
/-! ### the text by places -/
def topS (i : Nat) : Stmt := PySem.Challenge.pw_costwords_s01_answers.main.body.getD i (.Pass ⟨0, 0, 0, 0⟩)
abbrev s_Automaton_init : Stmt := inClass (topS 2) 0
abbrev N_Automaton_init : List Str := ["self", "states", "symbols"]
theorem sc_Automaton_init : FnScope N_Automaton_init ["self", "states", "symbols"] (defScope s_Automaton_init) := ⟨rfl, rfl, rfl, by decide +kernel, rfl, by decide +kernel, by decide +kernel⟩
abbrev s_Automaton_knows : Stmt := inClass (topS 2) 1
abbrev N_Automaton_knows : List Str := ["self", "symbol", "source", "target"]
theorem sc_Automaton_knows : FnScope N_Automaton_knows ["self", "symbol", "source", "target"] (defScope s_Automaton_knows) := ⟨rfl, rfl, rfl, by decide +kernel, rfl, by decide +kernel, by decide +kernel⟩
abbrev s_Automaton_weight_of : Stmt := inClass (topS 2) 2
abbrev N_Automaton_weight_of : List Str := ["self", "symbol", "source", "target"]
theorem sc_Automaton_weight_of : FnScope N_Automaton_weight_of ["self", "symbol", "source", "target"] (defScope s_Automaton_weight_of) := ⟨rfl, rfl, rfl, by decide +kernel, rfl, by decide +kernel, by decide +kernel⟩
abbrev s_Automaton_rows_of : Stmt := inClass (topS 2) 3
abbrev N_Automaton_rows_of : List Str := ["self", "symbol", "rows", "source", "target"]
theorem sc_Automaton_rows_of : FnScope N_Automaton_rows_of ["self", "symbol"] (defScope s_Automaton_rows_of) := ⟨rfl, rfl, rfl, by decide +kernel, rfl, by decide +kernel, by decide +kernel⟩
abbrev s_Automaton_is_mask : Stmt := inClass (topS 2) 4
abbrev N_Automaton_is_mask : List Str := ["self", "mask"]
theorem sc_Automaton_is_mask : FnScope N_Automaton_is_mask ["self", "mask"] (defScope s_Automaton_is_mask) := ⟨rfl, rfl, rfl, by decide +kernel, rfl, by decide +kernel, by decide +kernel⟩
abbrev s_Automaton_is_word : Stmt := inClass (topS 2) 5
abbrev N_Automaton_is_word : List Str := ["self", "word", "symbol"]
theorem sc_Automaton_is_word : FnScope N_Automaton_is_word ["self", "word"] (defScope s_Automaton_is_word) := ⟨rfl, rfl, rfl, by decide +kernel, rfl, by decide +kernel, by decide +kernel⟩
abbrev s_Automaton_first_costs : Stmt := inClass (topS 2) 6
abbrev N_Automaton_first_costs : List Str := ["self", "state"]
theorem sc_Automaton_first_costs : FnScope N_Automaton_first_costs ["self"] (defScope s_Automaton_first_costs) := ⟨rfl, rfl, rfl, by decide +kernel, rfl, by decide +kernel, by decide +kernel⟩
abbrev s_Automaton_accepted_at : Stmt := inClass (topS 2) 7
abbrev N_Automaton_accepted_at : List Str := ["self", "costs", "found", "state"]
theorem sc_Automaton_accepted_at : FnScope N_Automaton_accepted_at ["self", "costs"] (defScope s_Automaton_accepted_at) := ⟨rfl, rfl, rfl, by decide +kernel, rfl, by decide +kernel, by decide +kernel⟩
abbrev s_next_costs : Stmt := topS 3
abbrev N_next_costs : List Str := ["rows", "costs", "top", "found", "target", "best", "source"]
theorem sc_next_costs : FnScope N_next_costs ["rows", "costs", "top"] (defScope s_next_costs) := ⟨rfl, rfl, rfl, by decide +kernel, rfl, by decide +kernel, by decide +kernel⟩
abbrev s_cost_of : Stmt := topS 4
abbrev N_cost_of : List Str := ["automaton", "word", "costs", "symbol", "found"]
theorem sc_cost_of : FnScope N_cost_of ["automaton", "word"] (defScope s_cost_of) := ⟨rfl, rfl, rfl, by decide +kernel, rfl, by decide +kernel, by decide +kernel⟩
abbrev s_entry_of : Stmt := topS 7
abbrev N_entry_of : List Str := ["weight"]
theorem sc_entry_of : FnScope N_entry_of ["weight"] (defScope s_entry_of) := ⟨rfl, rfl, rfl, by decide +kernel, rfl, by decide +kernel, by decide +kernel⟩
abbrev s_matrix_of : Stmt := topS 8
abbrev N_matrix_of : List Str := ["rows", "row", "weight"]
theorem sc_matrix_of : FnScope N_matrix_of ["rows"] (defScope s_matrix_of) := ⟨rfl, rfl, rfl, by decide +kernel, rfl, by decide +kernel, by decide +kernel⟩
abbrev s_unit_of : Stmt := topS 9
abbrev N_unit_of : List Str := ["size", "rows", "left", "right"]
theorem sc_unit_of : FnScope N_unit_of ["size"] (defScope s_unit_of) := ⟨rfl, rfl, rfl, by decide +kernel, rfl, by decide +kernel, by decide +kernel⟩
abbrev s_product : Stmt := topS 10
abbrev N_product : List Str := ["one", "other", "size", "rows", "left", "row", "right", "middle"]
theorem sc_product : FnScope N_product ["one", "other"] (defScope s_product) := ⟨rfl, rfl, rfl, by decide +kernel, rfl, by decide +kernel, by decide +kernel⟩
abbrev s_is_idempotent : Stmt := topS 11
abbrev N_is_idempotent : List Str := ["one"]
theorem sc_is_idempotent : FnScope N_is_idempotent ["one"] (defScope s_is_idempotent) := ⟨rfl, rfl, rfl, by decide +kernel, rfl, by decide +kernel, by decide +kernel⟩
abbrev s_looped : Stmt := topS 12
abbrev N_looped : List Str := ["entry"]
theorem sc_looped : FnScope N_looped ["entry"] (defScope s_looped) := ⟨rfl, rfl, rfl, by decide +kernel, rfl, by decide +kernel, by decide +kernel⟩
abbrev s_stabilized : Stmt := topS 13
abbrev N_stabilized : List Str := ["one", "size", "rows", "left", "row", "right", "some", "at"]
theorem sc_stabilized : FnScope N_stabilized ["one"] (defScope s_stabilized) := ⟨rfl, rfl, rfl, by decide +kernel, rfl, by decide +kernel, by decide +kernel⟩
abbrev s_symbol_matrix : Stmt := topS 14
abbrev N_symbol_matrix : List Str := ["automaton", "symbol"]
theorem sc_symbol_matrix : FnScope N_symbol_matrix ["automaton", "symbol"] (defScope s_symbol_matrix) := ⟨rfl, rfl, rfl, by decide +kernel, rfl, by decide +kernel, by decide +kernel⟩
abbrev s_word_matrix : Stmt := topS 15
abbrev N_word_matrix : List Str := ["automaton", "word", "found", "symbol"]
theorem sc_word_matrix : FnScope N_word_matrix ["automaton", "word"] (defScope s_word_matrix) := ⟨rfl, rfl, rfl, by decide +kernel, rfl, by decide +kernel, by decide +kernel⟩
abbrev s_described : Stmt := topS 16
abbrev N_described : List Str := ["matrix", "found", "row"]
theorem sc_described : FnScope N_described ["matrix"] (defScope s_described) := ⟨rfl, rfl, rfl, by decide +kernel, rfl, by decide +kernel, by decide +kernel⟩
abbrev s_acceptance : Stmt := topS 17
abbrev N_acceptance : List Str := ["automaton", "matrix", "found", "left", "right"]
theorem sc_acceptance : FnScope N_acceptance ["automaton", "matrix"] (defScope s_acceptance) := ⟨rfl, rfl, rfl, by decide +kernel, rfl, by decide +kernel, by decide +kernel⟩
abbrev s_is_expression : Stmt := topS 22
abbrev N_is_expression : List Str := ["automaton", "row", "depth", "one"]
theorem sc_is_expression : FnScope N_is_expression ["automaton", "row"] (defScope s_is_expression) := ⟨rfl, rfl, rfl, by decide +kernel, rfl, by decide +kernel, by decide +kernel⟩
abbrev s_value_of : Stmt := topS 23
abbrev N_value_of : List Str := ["automaton", "row", "waiting", "one", "right", "left", "inner"]
theorem sc_value_of : FnScope N_value_of ["automaton", "row"] (defScope s_value_of) := ⟨rfl, rfl, rfl, by decide +kernel, rfl, by decide +kernel, by decide +kernel⟩
abbrev s_length_of : Stmt := topS 24
abbrev N_length_of : List Str := ["row", "count", "waiting", "one", "right", "left"]
theorem sc_length_of : FnScope N_length_of ["row", "count"] (defScope s_length_of) := ⟨rfl, rfl, rfl, by decide +kernel, rfl, by decide +kernel, by decide +kernel⟩
abbrev s_unrolled : Stmt := topS 25
abbrev N_unrolled : List Str := ["row", "count", "waiting", "one", "right", "left"]
theorem sc_unrolled : FnScope N_unrolled ["row", "count"] (defScope s_unrolled) := ⟨rfl, rfl, rfl, by decide +kernel, rfl, by decide +kernel, by decide +kernel⟩
abbrev s_Monoid_put : Stmt := inClass (topS 28) 1
abbrev N_Monoid_put : List Str := ["self", "matrix", "parts"]
theorem sc_Monoid_put : FnScope N_Monoid_put ["self", "matrix", "parts"] (defScope s_Monoid_put) := ⟨rfl, rfl, rfl, by decide +kernel, rfl, by decide +kernel, by decide +kernel⟩
abbrev s_Monoid_go_on : Stmt := inClass (topS 28) 2
abbrev N_Monoid_go_on : List Str := ["self", "place", "one", "other"]
theorem sc_Monoid_go_on : FnScope N_Monoid_go_on ["self", "place"] (defScope s_Monoid_go_on) := ⟨rfl, rfl, rfl, by decide +kernel, rfl, by decide +kernel, by decide +kernel⟩
abbrev s_Monoid_init : Stmt := inClass (topS 28) 0
abbrev N_Monoid_init : List Str := ["self", "automaton", "symbol", "place"]
theorem sc_Monoid_init : FnScope N_Monoid_init ["self", "automaton"] (defScope s_Monoid_init) := ⟨rfl, rfl, rfl, by decide +kernel, rfl, by decide +kernel, by decide +kernel⟩
abbrev s_Monoid_is_too_large : Stmt := inClass (topS 28) 3
abbrev N_Monoid_is_too_large : List Str := ["self"]
theorem sc_Monoid_is_too_large : FnScope N_Monoid_is_too_large ["self"] (defScope s_Monoid_is_too_large) := ⟨rfl, rfl, rfl, by decide +kernel, rfl, by decide +kernel, by decide +kernel⟩
abbrev s_Monoid_acceptances : Stmt := inClass (topS 28) 4
abbrev N_Monoid_acceptances : List Str := ["self", "automaton", "matrix"]
theorem sc_Monoid_acceptances : FnScope N_Monoid_acceptances ["self", "automaton"] (defScope s_Monoid_acceptances) := ⟨rfl, rfl, rfl, by decide +kernel, rfl, by decide +kernel, by decide +kernel⟩
abbrev s_Monoid_postfix : Stmt := inClass (topS 28) 5
abbrev N_Monoid_postfix : List Str := ["self", "place", "found", "waiting", "here", "is_mark", "kind", "first", "second"]
theorem sc_Monoid_postfix : FnScope N_Monoid_postfix ["self", "place"] (defScope s_Monoid_postfix) := ⟨rfl, rfl, rfl, by decide +kernel, rfl, by decide +kernel, by decide +kernel⟩
abbrev s_Search_init : Stmt := inClass (topS 30) 0
abbrev N_Search_init : List Str := ["self", "automaton", "top", "tables", "known", "place", "symbol", "rows", "later"]
theorem sc_Search_init : FnScope N_Search_init ["self", "automaton", "top"] (defScope s_Search_init) := ⟨rfl, rfl, rfl, by decide +kernel, rfl, by decide +kernel, by decide +kernel⟩
abbrev s_Search_word_to : Stmt := inClass (topS 30) 1
abbrev N_Search_word_to : List Str := ["self", "place", "found", "here", "before", "symbol"]
theorem sc_Search_word_to : FnScope N_Search_word_to ["self", "place"] (defScope s_Search_word_to) := ⟨rfl, rfl, rfl, by decide +kernel, rfl, by decide +kernel, by decide +kernel⟩
abbrev s_first_above : Stmt := topS 31
abbrev N_first_above : List Str := ["automaton", "bound", "search", "place", "costs"]
theorem sc_first_above : FnScope N_first_above ["automaton", "bound"] (defScope s_first_above) := ⟨rfl, rfl, rfl, by decide +kernel, rfl, by decide +kernel, by decide +kernel⟩
abbrev s_greatest_cost : Stmt := topS 32
abbrev N_greatest_cost : List Str := ["automaton", "top", "found", "costs", "cost"]
theorem sc_greatest_cost : FnScope N_greatest_cost ["automaton", "top"] (defScope s_greatest_cost) := ⟨rfl, rfl, rfl, by decide +kernel, rfl, by decide +kernel, by decide +kernel⟩
abbrev s_Module_init : Stmt := inClass (topS 38) 0
abbrev N_Module_init : List Str := ["self"]
theorem sc_Module_init : FnScope N_Module_init ["self"] (defScope s_Module_init) := ⟨rfl, rfl, rfl, by decide +kernel, rfl, by decide +kernel, by decide +kernel⟩
abbrev s_Module_create : Stmt := inClass (topS 38) 1
abbrev N_Module_create : List Str := ["self", "states", "symbols"]
theorem sc_Module_create : FnScope N_Module_create ["self", "states", "symbols"] (defScope s_Module_create) := ⟨rfl, rfl, rfl, by decide +kernel, rfl, by decide +kernel, by decide +kernel⟩
abbrev s_Module_set_transition : Stmt := inClass (topS 38) 2
abbrev N_Module_set_transition : List Str := ["self", "key", "weight", "automaton", "before"]
theorem sc_Module_set_transition : FnScope N_Module_set_transition ["self", "key", "weight"] (defScope s_Module_set_transition) := ⟨rfl, rfl, rfl, by decide +kernel, rfl, by decide +kernel, by decide +kernel⟩
abbrev s_Module_remove_transition : Stmt := inClass (topS 38) 3
abbrev N_Module_remove_transition : List Str := ["self", "key", "automaton"]
theorem sc_Module_remove_transition : FnScope N_Module_remove_transition ["self", "key"] (defScope s_Module_remove_transition) := ⟨rfl, rfl, rfl, by decide +kernel, rfl, by decide +kernel, by decide +kernel⟩
abbrev s_Module_set_mask : Stmt := inClass (topS 38) 4
abbrev N_Module_set_mask : List Str := ["self", "is_initial", "mask", "automaton", "before"]
theorem sc_Module_set_mask : FnScope N_Module_set_mask ["self", "is_initial", "mask"] (defScope s_Module_set_mask) := ⟨rfl, rfl, rfl, by decide +kernel, rfl, by decide +kernel, by decide +kernel⟩
abbrev s_Module_about_word : Stmt := inClass (topS 38) 5
abbrev N_Module_about_word : List Str := ["self", "number", "word", "cost", "matrix"]
theorem sc_Module_about_word : FnScope N_Module_about_word ["self", "number", "word"] (defScope s_Module_about_word) := ⟨rfl, rfl, rfl, by decide +kernel, rfl, by decide +kernel, by decide +kernel⟩
abbrev s_Module_evaluate : Stmt := inClass (topS 38) 6
abbrev N_Module_evaluate : List Str := ["self", "row", "found"]
theorem sc_Module_evaluate : FnScope N_Module_evaluate ["self", "row"] (defScope s_Module_evaluate) := ⟨rfl, rfl, rfl, by decide +kernel, rfl, by decide +kernel, by decide +kernel⟩
abbrev s_Module_unroll : Stmt := inClass (topS 38) 7
abbrev N_Module_unroll : List Str := ["self", "number", "count", "row", "word", "costs", "copies"]
theorem sc_Module_unroll : FnScope N_Module_unroll ["self", "number", "count", "row"] (defScope s_Module_unroll) := ⟨rfl, rfl, rfl, by decide +kernel, rfl, by decide +kernel, by decide +kernel⟩
abbrev s_Module_least_bound : Stmt := inClass (topS 38) 10
abbrev N_Module_least_bound : List Str := ["self", "found"]
theorem sc_Module_least_bound : FnScope N_Module_least_bound ["self"] (defScope s_Module_least_bound) := ⟨rfl, rfl, rfl, by decide +kernel, rfl, by decide +kernel, by decide +kernel⟩
abbrev s_Module_witness : Stmt := inClass (topS 38) 9
abbrev N_Module_witness : List Str := ["self", "monoid", "place", "found"]
theorem sc_Module_witness : FnScope N_Module_witness ["self", "monoid", "place"] (defScope s_Module_witness) := ⟨rfl, rfl, rfl, by decide +kernel, rfl, by decide +kernel, by decide +kernel⟩
abbrev s_Module_about_monoid : Stmt := inClass (topS 38) 8
abbrev N_Module_about_monoid : List Str := ["self", "number", "index", "monoid", "accepted", "is_limited", "one"]
theorem sc_Module_about_monoid : FnScope N_Module_about_monoid ["self", "number", "index"] (defScope s_Module_about_monoid) := ⟨rfl, rfl, rfl, by decide +kernel, rfl, by decide +kernel, by decide +kernel⟩
abbrev s_Module_word_above : Stmt := inClass (topS 38) 11
abbrev N_Module_word_above : List Str := ["self", "bound", "word"]
theorem sc_Module_word_above : FnScope N_Module_word_above ["self", "bound"] (defScope s_Module_word_above) := ⟨rfl, rfl, rfl, by decide +kernel, rfl, by decide +kernel, by decide +kernel⟩
abbrev s_Module_status : Stmt := inClass (topS 38) 12
abbrev N_Module_status : List Str := ["self"]
theorem sc_Module_status : FnScope N_Module_status ["self"] (defScope s_Module_status) := ⟨rfl, rfl, rfl, by decide +kernel, rfl, by decide +kernel, by decide +kernel⟩
abbrev s_done : Stmt := topS 42
abbrev N_done : List Str := ["module", "number", "given", "row"]
theorem sc_done : FnScope N_done ["module", "number", "given", "row"] (defScope s_done) := ⟨rfl, rfl, rfl, by decide +kernel, rfl, by decide +kernel, by decide +kernel⟩
abbrev s_answers : Stmt := topS 43
abbrev N_answers : List Str := ["calls", "module", "found", "place", "number", "begin", "given", "row", "end", "answer"]
theorem sc_answers : FnScope N_answers ["calls"] (defScope s_answers) := ⟨rfl, rfl, rfl, by decide +kernel, rfl, by decide +kernel, by decide +kernel⟩
end Cr

/-! The readings of all defs, printed by gen.py. -/
namespace Cr
open PySem PySem.Spec PyProof.Rows L2 Evl Cw
def t_Automaton_init (P : Program) (w : World) (K : PySem.W.Frag) (ad : Ad) : TS := tSeq (sFld K (tVar 0) (tVar 1) "states") (tSeq (sFld K (tVar 0) (tVar 2) "symbols") (tSeq (sFld K (tVar 0) (tDNewT) "weights") (tSeq (sFld K (tVar 0) (tC (.int 1)) "initial") (sFld K (tVar 0) (tC (.int 1)) "final"))))
def t_Automaton_knows (P : Program) (w : World) (K : PySem.W.Frag) (ad : Ad) : TS := tRet (tAndV (tOp rLt (tVar 1) (tFld K (tVar 0) "symbols")) (tAndV (tOp rLt (tVar 2) (tFld K (tVar 0) "states")) (tOp rLt (tVar 3) (tFld K (tVar 0) "states"))))
def t_Automaton_weight_of (P : Program) (w : World) (K : PySem.W.Frag) (ad : Ad) : TS := tRet (tDGet2 (tFld K (tVar 0) "weights") (tTup (tCons (tVar 1) (tCons (tVar 2) (tCons (tVar 3) (tNil))))) (tUn rNeg (tC (.int 1))))
def t_Automaton_rows_of (P : Program) (w : World) (K : PySem.W.Frag) (ad : Ad) : TS := tSeq (tAsg (tLst (tNil)) (gName 2)) (tSeq (tFor (iRng1 (tCons (tFld K (tVar 0) "states") (tNil))) (gName 3) (tDrop (tBM K "list" rAppend (tVar 2) (tCons (tLc (iRng1 (tCons (tFld K (tVar 0) "states") (tNil))) (gName 4) (tYes) (tMeth ad.a "weight_of" (sp_Automaton_weight_of P w K ad) [] E0 (tVar 0) (tCons (tVar 1) (tCons (tVar 3) (tCons (tVar 4) (tNil))))) [4]) (tNil))))) (tRet (tVar 2)))
def t_Automaton_is_mask (P : Program) (w : World) (K : PySem.W.Frag) (ad : Ad) : TS := tRet (tOp rLt (tVar 1) (tOp rShl (tC (.int 1)) (tFld K (tVar 0) "states")))
def t_Automaton_is_word (P : Program) (w : World) (K : PySem.W.Frag) (ad : Ad) : TS := tRet (tCB (rAll K) (tCons (tLc (iList K (tVar 1)) (gName 2) (tYes) (tOp rLt (tVar 2) (tFld K (tVar 0) "symbols")) [2]) (tNil)))
def t_Automaton_first_costs (P : Program) (w : World) (K : PySem.W.Frag) (ad : Ad) : TS := tRet (tCB (rTupOf K) (tCons (tLc (iRng1 (tCons (tFld K (tVar 0) "states") (tNil))) (gName 1) (tYes) (tIf (tTest (tOp rEq (tOp rBand (tOp rShr (tFld K (tVar 0) "initial") (tVar 1)) (tC (.int 1))) (tC (.int 1)))) (tC (.int 0)) (tC (.int 1000000))) [1]) (tNil)))
def t_Automaton_accepted_at (P : Program) (w : World) (K : PySem.W.Frag) (ad : Ad) : TS := tSeq (tAsg (tC (.int 1000000)) (gName 2)) (tSeq (tFor (iRng1 (tCons (tFld K (tVar 0) "states") (tNil))) (gName 3) (tIfS (tTest (tOp rEq (tOp rBand (tOp rShr (tFld K (tVar 0) "final") (tVar 3)) (tC (.int 1))) (tC (.int 1)))) (tAsg (tCB rMin2 (tCons (tVar 2) (tCons (tOp (rIxT K) (tVar 1) (tVar 3)) (tNil)))) (gName 2)) (tNext))) (tRet (tVar 2)))
def t_next_costs (P : Program) (w : World) (K : PySem.W.Frag) (ad : Ad) : TS := tSeq (tAsg (tLst (tNil)) (gName 3)) (tSeq (tFor (iRng1 (tCons (tCB (rLenS K) (tCons (tVar 1) (tNil))) (tNil))) (gName 4) (tSeq (tAsg (tC (.int 1000000)) (gName 5)) (tSeq (tFor (iRng1 (tCons (tCB (rLenS K) (tCons (tVar 1) (tNil))) (tNil))) (gName 6) (tIfS (tAnd (tTest (tOp rGe (tOp (rIxL K) (tOp (rIxL K) (tVar 0) (tVar 6)) (tVar 4)) (tC (.int 0)))) (tTest (tOp rLt (tOp (rIxT K) (tVar 1) (tVar 6)) (tC (.int 1000000))))) (tAsg (tCB rMin3 (tCons (tVar 5) (tCons (tOp rPlus (tOp (rIxT K) (tVar 1) (tVar 6)) (tOp (rIxL K) (tOp (rIxL K) (tVar 0) (tVar 6)) (tVar 4))) (tCons (tVar 2) (tNil))))) (gName 5)) (tNext))) (tDrop (tBM K "list" rAppend (tVar 3) (tCons (tVar 5) (tNil))))))) (tRet (tCB (rTupOf K) (tCons (tVar 3) (tNil)))))
def t_cost_of (P : Program) (w : World) (K : PySem.W.Frag) (ad : Ad) : TS := tSeq (tAsg (tMeth ad.a "first_costs" (sp_Automaton_first_costs P w K ad) [] E0 (tVar 0) tNil) (gName 2)) (tSeq (tFor (iList K (tVar 1)) (gName 3) (tAsg (tCall (sp_next_costs P w K ad) [] E0 (tCons (tMeth ad.a "rows_of" (sp_Automaton_rows_of P w K ad) [] E0 (tVar 0) (tCons (tVar 3) (tNil))) (tCons (tVar 2) (tCons (tOp rMinus (tC (.int 1000000)) (tC (.int 1))) (tNil))))) (gName 2))) (tSeq (tAsg (tMeth ad.a "accepted_at" (sp_Automaton_accepted_at P w K ad) [] E0 (tVar 0) (tCons (tVar 2) (tNil))) (gName 4)) (tRet (tIf (tTest (tOp rLt (tVar 4) (tC (.int 1000000)))) (tVar 4) (tUn rNeg (tC (.int 1)))))))
def t_entry_of (P : Program) (w : World) (K : PySem.W.Frag) (ad : Ad) : TS := tRet (tIf (tTest (tOp rLt (tVar 0) (tC (.int 0)))) (tC (.int 3)) (tCB rMin2 (tCons (tVar 0) (tCons (tC (.int 1)) (tNil)))))
def t_matrix_of (P : Program) (w : World) (K : PySem.W.Frag) (ad : Ad) : TS := tRet (tCB (rTupOf K) (tCons (tLc (iList K (tVar 0)) (gName 1) (tYes) (tCB (rTupOf K) (tCons (tLc (iList K (tVar 1)) (gName 2) (tYes) (tCall (sp_entry_of P w K ad) [] E0 (tCons (tVar 2) (tNil))) [2]) (tNil))) [1]) (tNil)))
def t_unit_of (P : Program) (w : World) (K : PySem.W.Frag) (ad : Ad) : TS := tSeq (tAsg (tLst (tNil)) (gName 1)) (tSeq (tFor (iRng1 (tCons (tVar 0) (tNil))) (gName 2) (tDrop (tBM K "list" rAppend (tVar 1) (tCons (tCB (rTupOf K) (tCons (tLc (iRng1 (tCons (tVar 0) (tNil))) (gName 3) (tYes) (tIf (tTest (tOp rEq (tVar 2) (tVar 3))) (tC (.int 0)) (tC (.int 3))) [3]) (tNil))) (tNil))))) (tRet (tCB (rTupOf K) (tCons (tVar 1) (tNil)))))
def t_product (P : Program) (w : World) (K : PySem.W.Frag) (ad : Ad) : TS := tSeq (tAsg (tCB (rLenS K) (tCons (tVar 0) (tNil))) (gName 2)) (tSeq (tAsg (tLst (tNil)) (gName 3)) (tSeq (tFor (iRng1 (tCons (tVar 2) (tNil))) (gName 4) (tSeq (tAsg (tLst (tNil)) (gName 5)) (tSeq (tFor (iRng1 (tCons (tVar 2) (tNil))) (gName 6) (tDrop (tBM K "list" rAppend (tVar 5) (tCons (tCB (rMin K) (tCons (tLc (iRng1 (tCons (tVar 2) (tNil))) (gName 7) (tYes) (tCB rMax2 (tCons (tOp (rIxT K) (tOp (rIxT K) (tVar 0) (tVar 4)) (tVar 7)) (tCons (tOp (rIxT K) (tOp (rIxT K) (tVar 1) (tVar 7)) (tVar 6)) (tNil)))) [7]) (tNil))) (tNil))))) (tDrop (tBM K "list" rAppend (tVar 3) (tCons (tCB (rTupOf K) (tCons (tVar 5) (tNil))) (tNil))))))) (tRet (tCB (rTupOf K) (tCons (tVar 3) (tNil))))))
def t_is_idempotent (P : Program) (w : World) (K : PySem.W.Frag) (ad : Ad) : TS := tRet (tOp (rEqD K) (tCall (sp_product P w K ad) [] E0 (tCons (tVar 0) (tCons (tVar 0) (tNil)))) (tVar 0))
def t_looped (P : Program) (w : World) (K : PySem.W.Frag) (ad : Ad) : TS := tRet (tIf (tTest (tOp rEq (tVar 0) (tC (.int 1)))) (tC (.int 2)) (tVar 0))
def t_stabilized (P : Program) (w : World) (K : PySem.W.Frag) (ad : Ad) : TS := tSeq (tAsg (tCB (rLenS K) (tCons (tVar 0) (tNil))) (gName 1)) (tSeq (tAsg (tLst (tNil)) (gName 2)) (tSeq (tFor (iRng1 (tCons (tVar 1) (tNil))) (gName 3) (tSeq (tAsg (tLst (tNil)) (gName 4)) (tSeq (tFor (iRng1 (tCons (tVar 1) (tNil))) (gName 5) (tSeq (tAsg (tLc (iRng1 (tCons (tVar 1) (tNil))) (gName 7) (tYes) (tCB rMax3 (tCons (tOp (rIxT K) (tOp (rIxT K) (tVar 0) (tVar 3)) (tVar 7)) (tCons (tCall (sp_looped P w K ad) [] E0 (tCons (tOp (rIxT K) (tOp (rIxT K) (tVar 0) (tVar 7)) (tVar 7)) (tNil))) (tCons (tOp (rIxT K) (tOp (rIxT K) (tVar 0) (tVar 7)) (tVar 5)) (tNil))))) [7]) (gName 6)) (tDrop (tBM K "list" rAppend (tVar 4) (tCons (tCB (rMin K) (tCons (tVar 6) (tNil))) (tNil)))))) (tDrop (tBM K "list" rAppend (tVar 2) (tCons (tCB (rTupOf K) (tCons (tVar 4) (tNil))) (tNil))))))) (tRet (tCB (rTupOf K) (tCons (tVar 2) (tNil))))))
def t_symbol_matrix (P : Program) (w : World) (K : PySem.W.Frag) (ad : Ad) : TS := tRet (tCall (sp_matrix_of P w K ad) [] E0 (tCons (tMeth ad.a "rows_of" (sp_Automaton_rows_of P w K ad) [] E0 (tVar 0) (tCons (tVar 1) (tNil))) (tNil)))
def t_word_matrix (P : Program) (w : World) (K : PySem.W.Frag) (ad : Ad) : TS := tSeq (tAsg (tCall (sp_unit_of P w K ad) [] E0 (tCons (tFld K (tVar 0) "states") (tNil))) (gName 2)) (tSeq (tFor (iList K (tVar 1)) (gName 3) (tAsg (tCall (sp_product P w K ad) [] E0 (tCons (tVar 2) (tCons (tCall (sp_symbol_matrix P w K ad) [] E0 (tCons (tVar 0) (tCons (tVar 3) (tNil)))) (tNil)))) (gName 2))) (tRet (tVar 2)))
def t_described (P : Program) (w : World) (K : PySem.W.Frag) (ad : Ad) : TS := tSeq (tAsg (tLst (tCons (tOp rTimes (tCB (rLenS K) (tCons (tVar 0) (tNil))) (tCB (rLenS K) (tCons (tVar 0) (tNil)))) (tNil))) (gName 1)) (tSeq (tFor (iTup K (tVar 0)) (gName 2) (tDrop (tBM K "list" rExtend (tVar 1) (tCons (tCB (rListS K) (tCons (tVar 2) (tNil))) (tNil))))) (tRet (tVar 1)))
def t_acceptance (P : Program) (w : World) (K : PySem.W.Frag) (ad : Ad) : TS := tSeq (tAsg (tC (.int 3)) (gName 2)) (tSeq (tFor (iRng1 (tCons (tFld K (tVar 0) "states") (tNil))) (gName 3) (tFor (iRng1 (tCons (tFld K (tVar 0) "states") (tNil))) (gName 4) (tIfS (tAnd (tTest (tOp rEq (tOp rBand (tOp rShr (tFld K (tVar 0) "initial") (tVar 3)) (tC (.int 1))) (tC (.int 1)))) (tTest (tOp rEq (tOp rBand (tOp rShr (tFld K (tVar 0) "final") (tVar 4)) (tC (.int 1))) (tC (.int 1))))) (tAsg (tCB rMin2 (tCons (tVar 2) (tCons (tOp (rIxT K) (tOp (rIxT K) (tVar 1) (tVar 3)) (tVar 4)) (tNil)))) (gName 2)) (tNext)))) (tRet (tVar 2)))
def t_is_expression (P : Program) (w : World) (K : PySem.W.Frag) (ad : Ad) : TS := tSeq (tAsg (tC (.int 0)) (gName 2)) (tSeq (tFor (iList K (tVar 1)) (gName 3) (tIfS (tTest (tOp rLt (tVar 3) (tFld K (tVar 0) "symbols"))) (tAsg (tOp rPlus (tVar 2) (tC (.int 1))) (gName 2)) (tIfS (tAnd (tTest (tOp rEq (tVar 3) (tC (.int 8)))) (tTest (tOp rGe (tVar 2) (tC (.int 2))))) (tAsg (tOp rMinus (tVar 2) (tC (.int 1))) (gName 2)) (tIfS (tOr (tTest (tOp rNe (tVar 3) (tC (.int 9)))) (tTest (tOp rLt (tVar 2) (tC (.int 1))))) (tRet (tC (.bl false))) (tNext))))) (tRet (tOp rEq (tVar 2) (tC (.int 1)))))
def t_value_of (P : Program) (w : World) (K : PySem.W.Frag) (ad : Ad) : TS := tSeq (tAsg (tLst (tNil)) (gName 2)) (tSeq (tFor (iList K (tVar 1)) (gName 3) (tIfS (tTest (tOp rEq (tVar 3) (tC (.int 8)))) (tSeq (tAsg (tBM0 K "list" rPop (tVar 2)) (gName 4)) (tSeq (tAsg (tBM0 K "list" rPop (tVar 2)) (gName 5)) (tDrop (tBM K "list" rAppend (tVar 2) (tCons (tIf (tAnd (tTest (tOp rGt (tCB (rLenS K) (tCons (tVar 5) (tNil))) (tC (.int 0)))) (tTest (tOp rGt (tCB (rLenS K) (tCons (tVar 4) (tNil))) (tC (.int 0))))) (tCall (sp_product P w K ad) [] E0 (tCons (tVar 5) (tCons (tVar 4) (tNil)))) (tTup (tNil))) (tNil)))))) (tIfS (tTest (tOp rEq (tVar 3) (tC (.int 9)))) (tSeq (tAsg (tBM0 K "list" rPop (tVar 2)) (gName 6)) (tDrop (tBM K "list" rAppend (tVar 2) (tCons (tIf (tAnd (tTest (tOp rGt (tCB (rLenS K) (tCons (tVar 6) (tNil))) (tC (.int 0)))) (tB (tCall (sp_is_idempotent P w K ad) [] E0 (tCons (tVar 6) (tNil))))) (tCall (sp_stabilized P w K ad) [] E0 (tCons (tVar 6) (tNil))) (tTup (tNil))) (tNil))))) (tDrop (tBM K "list" rAppend (tVar 2) (tCons (tCall (sp_symbol_matrix P w K ad) [] E0 (tCons (tVar 0) (tCons (tVar 3) (tNil)))) (tNil))))))) (tRet (tOp (rIxL K) (tVar 2) (tC (.int 0)))))
def t_length_of (P : Program) (w : World) (K : PySem.W.Frag) (ad : Ad) : TS := tSeq (tAsg (tLst (tNil)) (gName 2)) (tSeq (tFor (iList K (tVar 0)) (gName 3) (tIfS (tTest (tOp rEq (tVar 3) (tC (.int 8)))) (tSeq (tAsg (tBM0 K "list" rPop (tVar 2)) (gName 4)) (tSeq (tAsg (tBM0 K "list" rPop (tVar 2)) (gName 5)) (tDrop (tBM K "list" rAppend (tVar 2) (tCons (tCB rMin2 (tCons (tC (.int 61)) (tCons (tOp rPlus (tVar 5) (tVar 4)) (tNil)))) (tNil)))))) (tIfS (tTest (tOp rEq (tVar 3) (tC (.int 9)))) (tDrop (tBM K "list" rAppend (tVar 2) (tCons (tCB rMin2 (tCons (tC (.int 61)) (tCons (tOp rTimes (tVar 1) (tBM0 K "list" rPop (tVar 2))) (tNil)))) (tNil)))) (tDrop (tBM K "list" rAppend (tVar 2) (tCons (tC (.int 1)) (tNil))))))) (tRet (tOp (rIxL K) (tVar 2) (tC (.int 0)))))
def t_unrolled (P : Program) (w : World) (K : PySem.W.Frag) (ad : Ad) : TS := tSeq (tAsg (tLst (tNil)) (gName 2)) (tSeq (tFor (iList K (tVar 0)) (gName 3) (tIfS (tTest (tOp rEq (tVar 3) (tC (.int 8)))) (tSeq (tAsg (tBM0 K "list" rPop (tVar 2)) (gName 4)) (tSeq (tAsg (tBM0 K "list" rPop (tVar 2)) (gName 5)) (tDrop (tBM K "list" rAppend (tVar 2) (tCons (tSl (rSlL K) (tOp rCat (tVar 5) (tVar 4)) (tNoPart) (tPart (tC (.int 61)))) (tNil)))))) (tIfS (tTest (tOp rEq (tVar 3) (tC (.int 9)))) (tDrop (tBM K "list" rAppend (tVar 2) (tCons (tSl (rSlL K) (tOp rRep (tBM0 K "list" rPop (tVar 2)) (tVar 1)) (tNoPart) (tPart (tC (.int 61)))) (tNil)))) (tDrop (tBM K "list" rAppend (tVar 2) (tCons (tLst (tCons (tVar 3) (tNil))) (tNil))))))) (tRet (tOp (rIxL K) (tVar 2) (tC (.int 0)))))
def t_Monoid_put (P : Program) (w : World) (K : PySem.W.Frag) (ad : Ad) : TS := tIfS (tB (tKnNot P w (tVar 1) (tFld K (tVar 0) "known"))) (tSeq (sKnPut P w (tFld K (tVar 0) "known") (tVar 1) (tC (.bl true))) (tSeq (tDrop (tBM K "list" rAppend (tFld K (tVar 0) "matrices") (tCons (tVar 1) (tNil)))) (tDrop (tBM K "list" rAppend (tFld K (tVar 0) "built") (tCons (tVar 2) (tNil)))))) (tNext)
def t_Monoid_go_on (P : Program) (w : World) (K : PySem.W.Frag) (ad : Ad) : TS := tSeq (tAsg (tOp (rIxL K) (tFld K (tVar 0) "matrices") (tVar 1)) (gName 2)) (tSeq (tIfS (tB (tCall (sp_is_idempotent P w K ad) [] E0 (tCons (tVar 2) (tNil)))) (tDrop (tMeth ad.m "put" (sp_Monoid_put P w K ad) [] E0 (tVar 0) (tCons (tCall (sp_stabilized P w K ad) [] E0 (tCons (tVar 2) (tNil))) (tCons (tTup (tCons (tC (.int 9)) (tCons (tVar 1) (tCons (tUn rNeg (tC (.int 1))) (tNil))))) (tNil))))) (tNext)) (tSeq (tFor (iRng1 (tCons (tOp rPlus (tVar 1) (tC (.int 1))) (tNil))) (gName 3) (tDrop (tMeth ad.m "put" (sp_Monoid_put P w K ad) [] E0 (tVar 0) (tCons (tCall (sp_product P w K ad) [] E0 (tCons (tVar 2) (tCons (tOp (rIxL K) (tFld K (tVar 0) "matrices") (tVar 3)) (tNil)))) (tCons (tTup (tCons (tC (.int 8)) (tCons (tVar 1) (tCons (tVar 3) (tNil))))) (tNil)))))) (tFor (iRng1 (tCons (tOp rPlus (tVar 1) (tC (.int 1))) (tNil))) (gName 3) (tDrop (tMeth ad.m "put" (sp_Monoid_put P w K ad) [] E0 (tVar 0) (tCons (tCall (sp_product P w K ad) [] E0 (tCons (tOp (rIxL K) (tFld K (tVar 0) "matrices") (tVar 3)) (tCons (tVar 2) (tNil)))) (tCons (tTup (tCons (tC (.int 8)) (tCons (tVar 3) (tCons (tVar 1) (tNil))))) (tNil))))))))
def t_Monoid_init (P : Program) (w : World) (K : PySem.W.Frag) (ad : Ad) : TS := tSeq (sFld K (tVar 0) (tLst (tNil)) "matrices") (tSeq (sFld K (tVar 0) (tLst (tNil)) "built") (tSeq (sFld K (tVar 0) (tKnNew P w) "known") (tSeq (tFor (iRng1 (tCons (tFld K (tVar 1) "symbols") (tNil))) (gName 2) (tDrop (tMeth ad.m "put" (sp_Monoid_put P w K ad) [] E0 (tVar 0) (tCons (tCall (sp_symbol_matrix P w K ad) [] E0 (tCons (tVar 1) (tCons (tVar 2) (tNil)))) (tCons (tTup (tCons (tVar 2) (tCons (tUn rNeg (tC (.int 1))) (tCons (tUn rNeg (tC (.int 1))) (tNil))))) (tNil)))))) (tSeq (tAsg (tC (.int 0)) (gName 3)) (tWhile (tAnd (tTest (tOp rLt (tVar 3) (tCB (rLenS K) (tCons (tFld K (tVar 0) "matrices") (tNil))))) (tTest (tOp rLe (tCB (rLenS K) (tCons (tFld K (tVar 0) "matrices") (tNil))) (tC (.int 100))))) (tSeq (tDrop (tMeth ad.m "go_on" (sp_Monoid_go_on P w K ad) [] E0 (tVar 0) (tCons (tVar 3) (tNil)))) (tAsg (tOp rPlus (tVar 3) (tC (.int 1))) (gName 3))))))))
def t_Monoid_is_too_large (P : Program) (w : World) (K : PySem.W.Frag) (ad : Ad) : TS := tRet (tOp rGt (tCB (rLenS K) (tCons (tFld K (tVar 0) "matrices") (tNil))) (tC (.int 100)))
def t_Monoid_acceptances (P : Program) (w : World) (K : PySem.W.Frag) (ad : Ad) : TS := tRet (tLc (iList K (tFld K (tVar 0) "matrices")) (gName 2) (tYes) (tCall (sp_acceptance P w K ad) [] E0 (tCons (tVar 1) (tCons (tVar 2) (tNil)))) [2])
def t_Monoid_postfix (P : Program) (w : World) (K : PySem.W.Frag) (ad : Ad) : TS := tSeq (tAsg (tLst (tNil)) (gName 2)) (tSeq (tAsg (tLst (tCons (tTup (tCons (tVar 1) (tCons (tC (.bl false)) (tNil)))) (tNil))) (gName 3)) (tSeq (tWhile (tTest (tOp rGt (tCB (rLenS K) (tCons (tVar 3) (tNil))) (tC (.int 0)))) (tSeq (tAsg (tBM0 K "list" rPop (tVar 3)) (gTup K 2 (gCons (gName 4) (gCons (gName 5) (gNil))))) (tSeq (tAsg (tOp (rIxL K) (tFld K (tVar 0) "built") (tVar 4)) (gTup K 3 (gCons (gName 6) (gCons (gName 7) (gCons (gName 8) (gNil)))))) (tIfS (tOr (tB (tVar 5)) (tTest (tOp rLt (tVar 7) (tC (.int 0))))) (tDrop (tBM K "list" rAppend (tVar 2) (tCons (tVar 6) (tNil)))) (tSeq (tDrop (tBM K "list" rAppend (tVar 3) (tCons (tTup (tCons (tVar 4) (tCons (tC (.bl true)) (tNil)))) (tNil)))) (tSeq (tIfS (tTest (tOp rGe (tVar 8) (tC (.int 0)))) (tDrop (tBM K "list" rAppend (tVar 3) (tCons (tTup (tCons (tVar 8) (tCons (tC (.bl false)) (tNil)))) (tNil)))) (tNext)) (tDrop (tBM K "list" rAppend (tVar 3) (tCons (tTup (tCons (tVar 7) (tCons (tC (.bl false)) (tNil)))) (tNil)))))))))) (tRet (tVar 2))))
def t_Search_init (P : Program) (w : World) (K : PySem.W.Frag) (ad : Ad) : TS := tSeq (tAsg (tLc (iRng1 (tCons (tFld K (tVar 1) "symbols") (tNil))) (gName 6) (tYes) (tMeth ad.a "rows_of" (sp_Automaton_rows_of P w K ad) [] E0 (tVar 1) (tCons (tVar 6) (tNil))) [6]) (gName 3)) (tSeq (sFld K (tVar 0) (tLst (tCons (tMeth ad.a "first_costs" (sp_Automaton_first_costs P w K ad) [] E0 (tVar 1) tNil) (tNil))) "met") (tSeq (sFld K (tVar 0) (tLst (tCons (tTup (tCons (tUn rNeg (tC (.int 1))) (tCons (tUn rNeg (tC (.int 1))) (tNil)))) (tNil))) "ways") (tSeq (tAsg (tKnDisp P w (tOp (rIxL K) (tFld K (tVar 0) "met") (tC (.int 0))) (tC (.bl true))) (gName 4)) (tSeq (tAsg (tC (.int 0)) (gName 5)) (tWhile (tTest (tOp rLt (tVar 5) (tCB (rLenS K) (tCons (tFld K (tVar 0) "met") (tNil))))) (tSeq (tFor (iEnum K (tCons (tVar 3) (tNil))) (gTup K 2 (gCons (gName 6) (gCons (gName 7) (gNil)))) (tSeq (tAsg (tCall (sp_next_costs P w K ad) [] E0 (tCons (tVar 7) (tCons (tOp (rIxL K) (tFld K (tVar 0) "met") (tVar 5)) (tCons (tVar 2) (tNil))))) (gName 8)) (tIfS (tB (tKnNot P w (tVar 8) (tVar 4))) (tSeq (sKnPut P w (tVar 4) (tVar 8) (tC (.bl true))) (tSeq (tDrop (tBM K "list" rAppend (tFld K (tVar 0) "met") (tCons (tVar 8) (tNil)))) (tDrop (tBM K "list" rAppend (tFld K (tVar 0) "ways") (tCons (tTup (tCons (tVar 5) (tCons (tVar 6) (tNil)))) (tNil)))))) (tNext)))) (tAsg (tOp rPlus (tVar 5) (tC (.int 1))) (gName 5))))))))
def t_Search_word_to (P : Program) (w : World) (K : PySem.W.Frag) (ad : Ad) : TS := tSeq (tAsg (tLst (tNil)) (gName 2)) (tSeq (tAsg (tVar 1) (gName 3)) (tSeq (tWhile (tTest (tOp rGt (tVar 3) (tC (.int 0)))) (tSeq (tAsg (tOp (rIxL K) (tFld K (tVar 0) "ways") (tVar 3)) (gTup K 2 (gCons (gName 4) (gCons (gName 5) (gNil))))) (tSeq (tDrop (tBM K "list" rInsert (tVar 2) (tCons (tC (.int 0)) (tCons (tVar 5) (tNil))))) (tAsg (tVar 4) (gName 3))))) (tRet (tVar 2))))
def t_first_above (P : Program) (w : World) (K : PySem.W.Frag) (ad : Ad) : TS := tSeq (tAsg (tMake ad.s (sp_Search_init P w K ad) [] E0 (tCons (tVar 0) (tCons (tOp rPlus (tVar 1) (tC (.int 1))) (tNil)))) (gName 2)) (tSeq (tFor (iEnum K (tCons (tFld K (tVar 2) "met") (tNil))) (gTup K 2 (gCons (gName 3) (gCons (gName 4) (gNil)))) (tIfS (tTest (tChain rLt rLt (tVar 1) (tMeth ad.a "accepted_at" (sp_Automaton_accepted_at P w K ad) [] E0 (tVar 0) (tCons (tVar 4) (tNil))) (tC (.int 1000000)))) (tRet (tMeth ad.s "word_to" (sp_Search_word_to P w K ad) [] E0 (tVar 2) (tCons (tVar 3) (tNil)))) (tNext))) (tRet (tC .non)))
def t_greatest_cost (P : Program) (w : World) (K : PySem.W.Frag) (ad : Ad) : TS := tSeq (tAsg (tC (.int 0)) (gName 2)) (tSeq (tFor (iList K (tFld K (tMake ad.s (sp_Search_init P w K ad) [] E0 (tCons (tVar 0) (tCons (tVar 1) (tNil)))) "met")) (gName 3) (tSeq (tAsg (tMeth ad.a "accepted_at" (sp_Automaton_accepted_at P w K ad) [] E0 (tVar 0) (tCons (tVar 3) (tNil))) (gName 4)) (tIfS (tTest (tOp rLt (tVar 4) (tC (.int 1000000)))) (tAsg (tCB rMax2 (tCons (tVar 2) (tCons (tVar 4) (tNil)))) (gName 2)) (tNext)))) (tRet (tVar 2)))
def t_Module_init (P : Program) (w : World) (K : PySem.W.Frag) (ad : Ad) : TS := sFld K (tVar 0) (tC .non) "automaton"
def t_Module_create (P : Program) (w : World) (K : PySem.W.Frag) (ad : Ad) : TS := tSeq (tIfS (tOr (tNot (tTest (tChain rLe rLe (tC (.int 1)) (tVar 1) (tC (.int 3))))) (tNot (tTest (tChain rLe rLe (tC (.int 1)) (tVar 2) (tC (.int 2)))))) (tRet (tLst (tCons (tUn rNeg (tC (.int 22))) (tNil)))) (tNext)) (tSeq (sFld K (tVar 0) (tMake ad.a (sp_Automaton_init P w K ad) [] E0 (tCons (tVar 1) (tCons (tVar 2) (tNil)))) "automaton") (tRet (tLst (tCons (tC (.int 0)) (tNil)))))
def t_Module_set_transition (P : Program) (w : World) (K : PySem.W.Frag) (ad : Ad) : TS := tSeq (tAsg (tFld K (tVar 0) "automaton") (gName 3)) (tSeq (tIfS (tNot (tB (tMeth ad.a "knows" (sp_Automaton_knows P w K ad) [] E0 (tVar 3) (tCons (tOp (rIxT K) (tVar 1) (tC (.int 0))) (tCons (tOp (rIxT K) (tVar 1) (tC (.int 1))) (tCons (tOp (rIxT K) (tVar 1) (tC (.int 2))) (tNil))))))) (tRet (tLst (tCons (tUn rNeg (tC (.int 2))) (tNil)))) (tNext)) (tSeq (tIfS (tTest (tOp rGt (tVar 2) (tC (.int 9)))) (tRet (tLst (tCons (tUn rNeg (tC (.int 22))) (tNil)))) (tNext)) (tSeq (tAsg (tOp rPlus (tMeth ad.a "weight_of" (sp_Automaton_weight_of P w K ad) [] E0 (tVar 3) (tCons (tOp (rIxT K) (tVar 1) (tC (.int 0))) (tCons (tOp (rIxT K) (tVar 1) (tC (.int 1))) (tCons (tOp (rIxT K) (tVar 1) (tC (.int 2))) (tNil))))) (tC (.int 1))) (gName 4)) (tSeq (sDPut (tFld K (tVar 3) "weights") (tVar 1) (tVar 2)) (tRet (tLst (tCons (tVar 4) (tNil))))))))
def t_Module_remove_transition (P : Program) (w : World) (K : PySem.W.Frag) (ad : Ad) : TS := tSeq (tAsg (tFld K (tVar 0) "automaton") (gName 2)) (tSeq (tIfS (tNot (tB (tMeth ad.a "knows" (sp_Automaton_knows P w K ad) [] E0 (tVar 2) (tCons (tOp (rIxT K) (tVar 1) (tC (.int 0))) (tCons (tOp (rIxT K) (tVar 1) (tC (.int 1))) (tCons (tOp (rIxT K) (tVar 1) (tC (.int 2))) (tNil))))))) (tRet (tLst (tCons (tUn rNeg (tC (.int 2))) (tNil)))) (tNext)) (tSeq (tIfS (tB (tDNotIn (tVar 1) (tFld K (tVar 2) "weights"))) (tRet (tLst (tCons (tUn rNeg (tC (.int 6))) (tNil)))) (tNext)) (tRet (tLst (tCons (tBM K "dict" rPopT1 (tFld K (tVar 2) "weights") (tCons (tVar 1) (tNil))) (tNil))))))
def t_Module_set_mask (P : Program) (w : World) (K : PySem.W.Frag) (ad : Ad) : TS := tSeq (tAsg (tFld K (tVar 0) "automaton") (gName 3)) (tSeq (tIfS (tNot (tB (tMeth ad.a "is_mask" (sp_Automaton_is_mask P w K ad) [] E0 (tVar 3) (tCons (tVar 2) (tNil))))) (tRet (tLst (tCons (tUn rNeg (tC (.int 22))) (tNil)))) (tNext)) (tSeq (tIfS (tB (tVar 1)) (tSeq (tAsg (tFld K (tVar 3) "initial") (gName 4)) (sFld K (tVar 3) (tVar 2) "initial")) (tSeq (tAsg (tFld K (tVar 3) "final") (gName 4)) (sFld K (tVar 3) (tVar 2) "final"))) (tRet (tLst (tCons (tVar 4) (tNil))))))
def t_Module_about_word (P : Program) (w : World) (K : PySem.W.Frag) (ad : Ad) : TS := tSeq (tIfS (tNot (tB (tMeth ad.a "is_word" (sp_Automaton_is_word P w K ad) [] E0 (tFld K (tVar 0) "automaton") (tCons (tVar 2) (tNil))))) (tRet (tLst (tCons (tUn rNeg (tC (.int 22))) (tNil)))) (tNext)) (tSeq (tIfS (tTest (tOp rEq (tVar 1) (tC (.int 17)))) (tSeq (tAsg (tCall (sp_cost_of P w K ad) [] E0 (tCons (tFld K (tVar 0) "automaton") (tCons (tVar 2) (tNil)))) (gName 3)) (tRet (tIf (tTest (tOp rGe (tVar 3) (tC (.int 0)))) (tLst (tCons (tVar 3) (tNil))) (tLst (tCons (tUn rNeg (tC (.int 33))) (tNil)))))) (tNext)) (tSeq (tAsg (tCall (sp_word_matrix P w K ad) [] E0 (tCons (tFld K (tVar 0) "automaton") (tCons (tVar 2) (tNil)))) (gName 4)) (tSeq (tIfS (tTest (tOp rEq (tVar 1) (tC (.int 5)))) (tRet (tCall (sp_described P w K ad) [] E0 (tCons (tVar 4) (tNil)))) (tNext)) (tSeq (tIfS (tTest (tOp rEq (tVar 1) (tC (.int 6)))) (tRet (tLst (tCons (tIf (tB (tCall (sp_is_idempotent P w K ad) [] E0 (tCons (tVar 4) (tNil)))) (tC (.int 1)) (tC (.int 0))) (tNil)))) (tNext)) (tRet (tIf (tB (tCall (sp_is_idempotent P w K ad) [] E0 (tCons (tVar 4) (tNil)))) (tCall (sp_described P w K ad) [] E0 (tCons (tCall (sp_stabilized P w K ad) [] E0 (tCons (tVar 4) (tNil))) (tNil))) (tLst (tCons (tUn rNeg (tC (.int 33))) (tNil)))))))))
def t_Module_evaluate (P : Program) (w : World) (K : PySem.W.Frag) (ad : Ad) : TS := tSeq (tIfS (tNot (tB (tCall (sp_is_expression P w K ad) [] E0 (tCons (tFld K (tVar 0) "automaton") (tCons (tVar 1) (tNil)))))) (tRet (tLst (tCons (tUn rNeg (tC (.int 22))) (tNil)))) (tNext)) (tSeq (tAsg (tCall (sp_value_of P w K ad) [] E0 (tCons (tFld K (tVar 0) "automaton") (tCons (tVar 1) (tNil)))) (gName 2)) (tRet (tIf (tTest (tOp rGt (tCB (rLenS K) (tCons (tVar 2) (tNil))) (tC (.int 0)))) (tCall (sp_described P w K ad) [] E0 (tCons (tVar 2) (tNil))) (tLst (tCons (tUn rNeg (tC (.int 33))) (tNil))))))
def t_Module_unroll (P : Program) (w : World) (K : PySem.W.Frag) (ad : Ad) : TS := tSeq (tIfS (tOr (tTest (tOp rGt (tVar 2) (tC (.int 4)))) (tNot (tB (tCall (sp_is_expression P w K ad) [] E0 (tCons (tFld K (tVar 0) "automaton") (tCons (tVar 3) (tNil))))))) (tRet (tLst (tCons (tUn rNeg (tC (.int 22))) (tNil)))) (tNext)) (tSeq (tIfS (tTest (tOp rGe (tCall (sp_length_of P w K ad) [] E0 (tCons (tVar 3) (tCons (tVar 2) (tNil)))) (tC (.int 61)))) (tRet (tLst (tCons (tUn rNeg (tC (.int 75))) (tNil)))) (tNext)) (tSeq (tIfS (tTest (tOp rEq (tVar 1) (tC (.int 9)))) (tSeq (tAsg (tCall (sp_unrolled P w K ad) [] E0 (tCons (tVar 3) (tCons (tVar 2) (tNil)))) (gName 4)) (tRet (tOp rCat (tLst (tCons (tCB (rLenS K) (tCons (tVar 4) (tNil))) (tNil))) (tVar 4)))) (tNext)) (tSeq (tAsg (tLc (iRng1 (tCons (tOp rPlus (tVar 2) (tC (.int 1))) (tNil))) (gName 6) (tYes) (tCall (sp_cost_of P w K ad) [] E0 (tCons (tFld K (tVar 0) "automaton") (tCons (tCall (sp_unrolled P w K ad) [] E0 (tCons (tVar 3) (tCons (tVar 6) (tNil)))) (tNil)))) [6]) (gName 5)) (tRet (tOp rCat (tLst (tCons (tOp rPlus (tVar 2) (tC (.int 1))) (tNil))) (tVar 5))))))
def t_Module_least_bound (P : Program) (w : World) (K : PySem.W.Frag) (ad : Ad) : TS := tSeq (tAsg (tCall (sp_greatest_cost P w K ad) [] E0 (tCons (tFld K (tVar 0) "automaton") (tCons (tOp rPlus (tC (.int 12)) (tC (.int 1))) (tNil)))) (gName 1)) (tRet (tIf (tTest (tOp rLe (tVar 1) (tC (.int 12)))) (tLst (tCons (tVar 1) (tNil))) (tLst (tCons (tUn rNeg (tC (.int 34))) (tNil)))))
def t_Module_witness (P : Program) (w : World) (K : PySem.W.Frag) (ad : Ad) : TS := tSeq (tAsg (tMeth ad.m "postfix" (sp_Monoid_postfix P w K ad) [] E0 (tVar 1) (tCons (tVar 2) (tNil))) (gName 3)) (tRet (tOp rCat (tLst (tCons (tCB (rLenS K) (tCons (tVar 3) (tNil))) (tNil))) (tVar 3)))
def t_Module_about_monoid (P : Program) (w : World) (K : PySem.W.Frag) (ad : Ad) : TS := tSeq (tAsg (tMake ad.m (sp_Monoid_init P w K ad) [] E0 (tCons (tFld K (tVar 0) "automaton") (tNil))) (gName 3)) (tSeq (tIfS (tB (tMeth ad.m "is_too_large" (sp_Monoid_is_too_large P w K ad) [] E0 (tVar 3) tNil)) (tRet (tLst (tCons (tUn rNeg (tC (.int 75))) (tNil)))) (tNext)) (tSeq (tIfS (tTest (tOp rEq (tVar 1) (tC (.int 11)))) (tRet (tLst (tCons (tCB (rLenS K) (tCons (tFld K (tVar 3) "matrices") (tNil))) (tNil)))) (tNext)) (tSeq (tIfS (tTest (tOp rEq (tVar 1) (tC (.int 12)))) (tRet (tIf (tTest (tOp rLt (tVar 2) (tCB (rLenS K) (tCons (tFld K (tVar 3) "matrices") (tNil))))) (tCall (sp_described P w K ad) [] E0 (tCons (tOp (rIxL K) (tFld K (tVar 3) "matrices") (tVar 2)) (tNil))) (tLst (tCons (tUn rNeg (tC (.int 2))) (tNil))))) (tNext)) (tSeq (tAsg (tMeth ad.m "acceptances" (sp_Monoid_acceptances P w K ad) [] E0 (tVar 3) (tCons (tFld K (tVar 0) "automaton") (tNil))) (gName 4)) (tSeq (tIfS (tTest (tOp rEq (tVar 1) (tC (.int 18)))) (tRet (tLst (tCons (tCB (rLenS K) (tCons (tLc (iList K (tVar 4)) (gName 6) (tTest (tOp rNe (tVar 6) (tC (.int 3)))) (tVar 6) [6]) (tNil))) (tNil)))) (tNext)) (tSeq (tIfS (tTest (tOp rEq (tVar 1) (tC (.int 19)))) (tRet (tLst (tCons (tBM K "list" (rCntI K) (tVar 4) (tCons (tC (.int 0)) (tNil))) (tNil)))) (tNext)) (tSeq (tAsg (tOp (rIn K true) (tC (.int 2)) (tVar 4)) (gName 5)) (tSeq (tIfS (tTest (tOp rEq (tVar 1) (tC (.int 13)))) (tRet (tLst (tCons (tIf (tB (tVar 5)) (tC (.int 1)) (tC (.int 0))) (tNil)))) (tNext)) (tSeq (tIfS (tTest (tOp rEq (tVar 1) (tC (.int 14)))) (tRet (tIf (tB (tVar 5)) (tLst (tCons (tUn rNeg (tC (.int 33))) (tNil))) (tMeth ad.o "witness" (sp_Module_witness P w K ad) [] E0 (tVar 0) (tCons (tVar 3) (tCons (tBM K "list" (rIndex K) (tVar 4) (tCons (tC (.int 2)) (tNil))) (tNil)))))) (tNext)) (tRet (tIf (tB (tVar 5)) (tMeth ad.o "least_bound" (sp_Module_least_bound P w K ad) [] E0 (tVar 0) tNil) (tLst (tCons (tUn rNeg (tC (.int 33))) (tNil))))))))))))))
def t_Module_word_above (P : Program) (w : World) (K : PySem.W.Frag) (ad : Ad) : TS := tSeq (tIfS (tTest (tOp rGt (tVar 1) (tC (.int 9)))) (tRet (tLst (tCons (tUn rNeg (tC (.int 22))) (tNil)))) (tNext)) (tSeq (tAsg (tCall (sp_first_above P w K ad) [] E0 (tCons (tFld K (tVar 0) "automaton") (tCons (tVar 1) (tNil)))) (gName 2)) (tRet (tIf (tTest (tOp rIsN (tVar 2) (tC .non))) (tLst (tCons (tUn rNeg (tC (.int 33))) (tNil))) (tOp rCat (tLst (tCons (tCB (rLenS K) (tCons (tVar 2) (tNil))) (tNil))) (tVar 2)))))
def t_Module_status (P : Program) (w : World) (K : PySem.W.Frag) (ad : Ad) : TS := tRet (tLst (tCons (tFld K (tFld K (tVar 0) "automaton") "states") (tCons (tFld K (tFld K (tVar 0) "automaton") "symbols") (tCons (tCB rLenT (tCons (tFld K (tFld K (tVar 0) "automaton") "weights") (tNil))) (tNil)))))
def t_done (P : Program) (w : World) (K : PySem.W.Frag) (ad : Ad) : TS := tSeq (tIfS (tTest (tOp rEq (tVar 1) (tC (.int 0)))) (tRet (tMeth ad.o "create" (sp_Module_create P w K ad) [] E0 (tVar 0) (tCons (tOp (rIxL K) (tVar 2) (tC (.int 0))) (tCons (tOp (rIxL K) (tVar 2) (tC (.int 1))) (tNil))))) (tNext)) (tSeq (tIfS (tTest (tOp rIsN (tFld K (tVar 0) "automaton") (tC .non))) (tRet (tLst (tCons (tUn rNeg (tC (.int 61))) (tNil)))) (tNext)) (tSeq (tIfS (tTest (tOp rEq (tVar 1) (tC (.int 1)))) (tRet (tMeth ad.o "set_transition" (sp_Module_set_transition P w K ad) [] E0 (tVar 0) (tCons (tTup (tCons (tOp (rIxL K) (tVar 2) (tC (.int 0))) (tCons (tOp (rIxL K) (tVar 2) (tC (.int 1))) (tCons (tOp (rIxL K) (tVar 2) (tC (.int 2))) (tNil))))) (tCons (tOp (rIxL K) (tVar 2) (tC (.int 3))) (tNil))))) (tNext)) (tSeq (tIfS (tTest (tOp rEq (tVar 1) (tC (.int 2)))) (tRet (tMeth ad.o "remove_transition" (sp_Module_remove_transition P w K ad) [] E0 (tVar 0) (tCons (tTup (tCons (tOp (rIxL K) (tVar 2) (tC (.int 0))) (tCons (tOp (rIxL K) (tVar 2) (tC (.int 1))) (tCons (tOp (rIxL K) (tVar 2) (tC (.int 2))) (tNil))))) (tNil)))) (tNext)) (tSeq (tIfS (tOr (tTest (tOp rEq (tVar 1) (tC (.int 3)))) (tTest (tOp rEq (tVar 1) (tC (.int 4))))) (tRet (tMeth ad.o "set_mask" (sp_Module_set_mask P w K ad) [] E0 (tVar 0) (tCons (tOp rEq (tVar 1) (tC (.int 3))) (tCons (tOp (rIxL K) (tVar 2) (tC (.int 0))) (tNil))))) (tNext)) (tSeq (tIfS (tTest (tOp (rIn K false) (tVar 1) (tTup (tCons (tC (.int 5)) (tCons (tC (.int 6)) (tCons (tC (.int 7)) (tCons (tC (.int 17)) (tNil)))))))) (tRet (tMeth ad.o "about_word" (sp_Module_about_word P w K ad) [] E0 (tVar 0) (tCons (tVar 1) (tCons (tVar 3) (tNil))))) (tNext)) (tSeq (tIfS (tTest (tOp rEq (tVar 1) (tC (.int 8)))) (tRet (tMeth ad.o "evaluate" (sp_Module_evaluate P w K ad) [] E0 (tVar 0) (tCons (tVar 3) (tNil)))) (tNext)) (tSeq (tIfS (tOr (tTest (tOp rEq (tVar 1) (tC (.int 9)))) (tTest (tOp rEq (tVar 1) (tC (.int 10))))) (tRet (tMeth ad.o "unroll" (sp_Module_unroll P w K ad) [] E0 (tVar 0) (tCons (tVar 1) (tCons (tOp (rIxL K) (tVar 2) (tC (.int 0))) (tCons (tVar 3) (tNil)))))) (tNext)) (tSeq (tIfS (tTest (tOp rEq (tVar 1) (tC (.int 16)))) (tRet (tMeth ad.o "word_above" (sp_Module_word_above P w K ad) [] E0 (tVar 0) (tCons (tOp (rIxL K) (tVar 2) (tC (.int 0))) (tNil)))) (tNext)) (tSeq (tIfS (tTest (tOp rEq (tVar 1) (tC (.int 20)))) (tRet (tMeth ad.o "status" (sp_Module_status P w K ad) [] E0 (tVar 0) tNil)) (tNext)) (tRet (tMeth ad.o "about_monoid" (sp_Module_about_monoid P w K ad) [] E0 (tVar 0) (tCons (tVar 1) (tCons (tIf (tTest (tOp rEq (tVar 1) (tC (.int 12)))) (tOp (rIxL K) (tVar 2) (tC (.int 0))) (tC (.int 0))) (tNil))))))))))))))
def t_answers (P : Program) (w : World) (K : PySem.W.Frag) (ad : Ad) : TS := tSeq (tAsg (tMake ad.o (sp_Module_init P w K ad) [] E0 tNil) (gName 1)) (tSeq (tAsg (tLst (tNil)) (gName 2)) (tSeq (tAsg (tC (.int 0)) (gName 3)) (tSeq (tWhile (tTest (tOp rLt (tVar 3) (tCB (rLenS K) (tCons (tVar 0) (tNil))))) (tSeq (tAsg (tOp (rIxL K) (tVar 0) (tVar 3)) (gName 4)) (tSeq (tAsg (tOp rPlus (tVar 3) (tC (.int 1))) (gName 5)) (tSeq (tAsg (tOp rPlus (tVar 5) (tOp (rIxT K) (tC (.ref ad.nums)) (tVar 4))) (gName 3)) (tSeq (tAsg (tSl (rSlL K) (tVar 0) (tPart (tVar 5)) (tPart (tVar 3))) (gName 6)) (tSeq (tAsg (tLst (tNil)) (gName 7)) (tSeq (tIfS (tTest (tOp (rIn K false) (tVar 4) (tC (.ref ad.wrow)))) (tSeq (tAsg (tOp rPlus (tOp rPlus (tVar 3) (tC (.int 1))) (tOp (rIxL K) (tVar 0) (tVar 3))) (gName 8)) (tSeq (tAsg (tSl (rSlL K) (tVar 0) (tPart (tOp rPlus (tVar 3) (tC (.int 1)))) (tPart (tVar 8))) (gName 7)) (tAsg (tVar 8) (gName 3)))) (tNext)) (tSeq (tAsg (tCall (sp_done P w K ad) [] E0 (tCons (tVar 1) (tCons (tVar 4) (tCons (tVar 6) (tCons (tVar 7) (tNil)))))) (gName 9)) (tSeq (tDrop (tBM K "list" rAppend (tVar 2) (tCons (tCB (rLenS K) (tCons (tVar 9) (tNil))) (tNil)))) (tDrop (tBM K "list" rExtend (tVar 2) (tCons (tVar 9) (tNil))))))))))))) (tRet (tVar 2)))))
end Cr

/-! Readings: helpers; the automaton. -/
namespace Cr
open PySem PySem.Spec PyProof.Rows L2 Evl Cw
/-! ### what evaluates to something of which P holds -/
def EvP (te : TE) (σ : L2.St) (H : Hp) (P : V → Hp → Prop) : Prop := ∀ H1, Ex H H1 → ∀ Q : VK, (∀ v H2, Ex H1 H2 → P v H2 → Q v H2) → te σ H1 Q
def EvPA (ta : TA) (σ : L2.St) (H : Hp) (P : List V → Hp → Prop) : Prop := ∀ H1, Ex H H1 → ∀ Q : List V → Hp → Prop, (∀ vs H2, Ex H1 H2 → P vs H2 → Q vs H2) → ta σ H1 Q
section
variable {K : PySem.W.Frag} {σ : L2.St} {H H' : Hp} {ta tb te tx : TE} {t u : TT} {x y z v : V} {D : Ends} {tu tw tz : TS} {g : TG} {a b n k : Nat}
theorem EvP.mono {P : V → Hp → Prop} (e : Ex H H') (h : EvP te σ H P) : EvP te σ H' P := fun H1 a Q q => h H1 (e.trans a) Q q
theorem evp_ev (h : Ev te σ H v) : EvP te σ H (fun u _ => u = v) := fun H1 e Q q => h H1 e Q fun H2 e2 => q v H2 e2 rfl
theorem evp_weak {P R : V → Hp → Prop} (h : EvP te σ H P) (w : ∀ v H2, Ex H H2 → P v H2 → R v H2) : EvP te σ H R := fun H1 e Q q => h H1 e Q fun v H2 e2 p => q v H2 e2 (w v H2 (e.trans e2) p)
theorem ev_evp (h : EvP te σ H (fun u _ => u = v)) : Ev te σ H v := fun H1 e Q q => h H1 e Q fun u H2 e2 p => by rw [p]; exact q H2 e2
theorem evp_elL {xs : List V} (h : EvL te σ H xs) : EvP te σ H (fun v H2 => ∃ p, v = .ref p ∧ H2 p = some (.lst xs)) := fun H1 e Q q => h H1 e Q fun p H2 _ e2 hp => q _ H2 e2 ⟨p, rfl, hp⟩
theorem evp_elU {xs : List V} (h : EvU te σ H xs) : EvP te σ H (fun v H2 => ∃ p, v = .ref p ∧ H2 p = some (.tup xs)) := fun H1 e Q q => h H1 e Q fun p H2 _ e2 hp => q _ H2 e2 ⟨p, rfl, hp⟩
theorem evpa_ea {vs : List V} {ta : TA} (h : EvA ta σ H vs) : EvPA ta σ H (fun us _ => us = vs) := fun H1 e Q q => h H1 e Q fun H2 e2 => q vs H2 e2 rfl
theorem evpa_nil : EvPA tNil σ H (fun us _ => us = []) := fun H1 _ Q q => q [] H1 (Ex.refl H1) rfl
theorem evpa_cons {tr : TA} {P : V → Hp → Prop} {R : V → List V → Hp → Prop} (h : EvP te σ H P) (hr : ∀ v H1, Ex H H1 → P v H1 → EvPA tr σ H1 (R v)) : EvPA (tCons te tr) σ H (fun us H2 => ∃ v r, us = v :: r ∧ R v r H2) := fun H1 e Q q =>
  h H1 e _ fun v H2 e2 p => hr v H2 (e.trans e2) p H2 (Ex.refl H2) _ fun r H3 e3 w => q _ H3 (e2.trans e3) ⟨v, r, rfl, w⟩
/-- one argument, told by P -/
theorem evpa_one {P : V → Hp → Prop} (h : EvP te σ H P) : EvPA (tCons te tNil) σ H (fun us H2 => ∃ v, us = [v] ∧ P v H2) := fun H1 e Q q =>
  h H1 e _ fun v H2 e2 p => q _ H2 e2 ⟨v, rfl, p⟩
theorem evp_call {sp : Sp} {E : XK} {ta : TA} {PA : List V → Hp → Prop} {P : V → Hp → Prop} (h : EvPA ta σ H PA) (hs : ∀ vs H1, Ex H H1 → PA vs H1 → ∀ Q : VK, (∀ v H2, Ex H1 H2 → P v H2 → Q v H2) → sp vs H1 Q E) : EvP (tCall sp [] E ta) σ H P := fun H1 e Q q =>
  h H1 e _ fun vs H2 e2 p => by rw [List.append_nil]; exact hs vs H2 (e.trans e2) p Q fun v H3 e3 w => q v H3 (e2.trans e3) w
theorem evp_meth {C : Addr} {m : Str} {sp : Sp} {E : XK} {ta : TA} {o dx : Addr} {fs : List (Str × V)} {PA : List V → Hp → Prop} {P : V → Hp → Prop} (ho : Ev te σ H (.ref o)) (hi : H o = some (.ins C dx fs)) (hm : fs.lookup m = none) (h : EvPA ta σ H PA)
    (hs : ∀ vs H1, Ex H H1 → PA vs H1 → ∀ Q : VK, (∀ v H2, Ex H1 H2 → P v H2 → Q v H2) → sp (.ref o :: vs) H1 Q E) : EvP (tMeth C m sp [] E te ta) σ H P := fun H1 e Q q =>
  ho H1 e _ fun H2 e2 => ⟨o, dx, fs, rfl, e2 _ _ (e _ _ hi), hm, h H2 (e.trans e2) _ fun vs H3 e3 p => by
    rw [List.append_nil]
    exact hs vs H3 ((e.trans e2).trans e3) p Q fun v H4 e4 w => q v H4 ((e2.trans e3).trans e4) w⟩
/-- a new instance -/
theorem evp_make {C : Addr} {sp : Sp} {E : XK} {ta : TA} {PA : List V → Hp → Prop} {P : V → Hp → Prop} (h : EvPA ta σ H PA)
    (hs : ∀ vs H1, Ex H H1 → PA vs H1 → ∀ x dx, H1 x = none → H1 dx = none → dx ≠ x → ∀ Q : VK, (∀ H2, (∀ b o, (upd (upd H1 dx (.own x)) x (.ins C dx [])) b = some o → b ≠ x → H2 b = some o) → P (.ref x) H2 → Q .non H2) → sp (.ref x :: vs) (upd (upd H1 dx (.own x)) x (.ins C dx [])) Q E) :
    EvP (tMake C sp [] E ta) σ H P := fun H1 e Q q =>
  h H1 e _ fun vs H2 e2 p => fun x dx hx hd ne => by
    rw [List.append_nil]
    refine hs vs H2 (e.trans e2) p x dx hx hd ne _ fun H3 k w => ⟨rfl, q _ H3 (e2.trans ?_) w⟩
    exact Same.made hx hd k
theorem ev_callV {sp : Sp} {E : XK} {ta : TA} {vs : List V} (h : EvA ta σ H vs) (hs : ∀ H1, Ex H H1 → ∀ Q : VK, (∀ H2, Ex H1 H2 → Q z H2) → sp vs H1 Q E) : Ev (tCall sp [] E ta) σ H z := fun H1 e Q q =>
  h H1 e _ fun H2 e2 => by rw [List.append_nil]; exact hs H2 (e.trans e2) Q fun H3 e3 => q H3 (e2.trans e3)
theorem ev_methV {C : Addr} {m : Str} {sp : Sp} {E : XK} {ta : TA} {o dx : Addr} {fs : List (Str × V)} {vs : List V} (ho : Ev te σ H (.ref o)) (hi : H o = some (.ins C dx fs)) (hm : fs.lookup m = none) (h : EvA ta σ H vs)
    (hs : ∀ H1, Ex H H1 → ∀ Q : VK, (∀ H2, Ex H1 H2 → Q z H2) → sp (.ref o :: vs) H1 Q E) : Ev (tMeth C m sp [] E te ta) σ H z := fun H1 e Q q =>
  ho H1 e _ fun H2 e2 => ⟨o, dx, fs, rfl, e2 _ _ (e _ _ hi), hm, h H2 (e.trans e2) _ fun H3 e3 => by
    rw [List.append_nil]
    exact hs H3 ((e.trans e2).trans e3) Q fun H4 e4 => q H4 ((e2.trans e3).trans e4)⟩
/-- the value of an expression is called for once more -/
theorem evp_bind {P R : V → Hp → Prop} {tc : TE → TE} (h : EvP te σ H P) : EvP te σ H P := h
theorem ea_one (h : Ev te σ H x) : EvA (tCons te tNil) σ H [x] := ea_cons h ea_nil
theorem ea_two (h : Ev ta σ H x) (h2 : Ev tb σ H y) : EvA (tCons ta (tCons tb tNil)) σ H [x, y] := ea_cons h (ea_one h2)
theorem ea_three (h : Ev ta σ H x) (h2 : Ev tb σ H y) (h3 : Ev te σ H z) : EvA (tCons ta (tCons tb (tCons te tNil))) σ H [x, y, z] := ea_cons h (ea_two h2 h3)
/-! whole numbers -/
theorem ev_cN {i : Int} (h : i = (n : Int) := by rfl) : Ev (tC (.int i)) σ H (natV n) := by rw [h]; exact ev_c
theorem ev_ltN (ha : Ev ta σ H (natV a)) (hb : Ev tb σ H (natV b)) : Ev (tOp rLt ta tb) σ H (.bl (decide (a < b))) := ev_is (ev_op ha hb rv_I0) (by congr 1; exact decide_eq_decide.mpr Int.ofNat_lt)
theorem ev_leN (ha : Ev ta σ H (natV a)) (hb : Ev tb σ H (natV b)) : Ev (tOp rLe ta tb) σ H (.bl (decide (a ≤ b))) := ev_is (ev_op ha hb rv_I0) (by congr 1; exact decide_eq_decide.mpr Int.ofNat_le)
theorem ev_gtN (ha : Ev ta σ H (natV a)) (hb : Ev tb σ H (natV b)) : Ev (tOp rGt ta tb) σ H (.bl (decide (b < a))) := ev_is (ev_op ha hb rv_I0) (by congr 1; exact decide_eq_decide.mpr Int.ofNat_lt)
theorem ev_geN (ha : Ev ta σ H (natV a)) (hb : Ev tb σ H (natV b)) : Ev (tOp rGe ta tb) σ H (.bl (decide (b ≤ a))) := ev_is (ev_op ha hb rv_I0) (by congr 1; exact decide_eq_decide.mpr Int.ofNat_le)
theorem natV_inj : decide (natV a = natV b) = decide (a = b) := decide_eq_decide.mpr ⟨fun h => by injection h with h; exact Int.ofNat.inj h, fun h => by rw [h]⟩
theorem ev_eqN (ha : Ev ta σ H (natV a)) (hb : Ev tb σ H (natV b)) : Ev (tOp rEq ta tb) σ H (.bl (decide (a = b))) := ev_is (ev_op ha hb (rv_eq rfl)) (by rw [natV_inj])
theorem ev_neN (ha : Ev ta σ H (natV a)) (hb : Ev tb σ H (natV b)) : Ev (tOp rNe ta tb) σ H (.bl (!decide (a = b))) := ev_is (ev_op ha hb (rv_ne rfl)) (by rw [natV_inj])
theorem ev_addN (ha : Ev ta σ H (natV a)) (hb : Ev tb σ H (natV b)) : Ev (tOp rPlus ta tb) σ H (natV (a + b)) := ev_op ha hb rv_I0
theorem ev_negN (ha : Ev ta σ H (natV a)) : Ev (tUn rNeg ta) σ H (.int (-(a : Int))) := ev_un ha ru_neg
/-! objects -/
theorem lk_here {k : Str} {v : V} {r : List (Str × V)} : List.lookup k ((k, v) :: r) = some v := by
  have e : (k == k) = true := beq_self_eq_true k
  simp only [List.lookup, e]
theorem lk_past {k g : Str} {v : V} {r : List (Str × V)} (h : (k == g) = false) : List.lookup k ((g, v) :: r) = List.lookup k r := by
  simp only [List.lookup, h]
theorem put_here {f : Str} {v x : V} {r : List (Str × V)} : putF f v ((f, x) :: r) = (f, v) :: r := if_pos rfl
theorem put_past {f g : Str} {v x : V} {r : List (Str × V)} (h : ¬ g = f) : putF f v ((g, x) :: r) = (g, x) :: putF f v r := if_neg h
theorem ev_fld {o C dx : Addr} {fs : List (Str × V)} {f : Str} (ho : Ev ta σ H (.ref o)) (hi : H o = some (.ins C dx fs)) (c : Cls K C) (n : NoAttr K C f) (l : fs.lookup f = some v) : Ev (tFld K ta f) σ H v := fun H1 e Q q =>
  ho H1 e _ fun H2 e2 => ⟨o, C, dx, fs, v, rfl, e2 _ _ (e _ _ hi), c, n, l, q H2 e2⟩
/-! lists made -/
theorem given_map (n : Nat) (v : Nat → V) : given n (fun _ => true) v = (List.range n).map v := by
  unfold given
  rw [List.filter_eq_self.mpr (fun _ _ => rfl)]
theorem el_map {ta : TA} {j : Nat} {vs : List Nat} (v : Nat → V) (h : EvA ta σ H [natV n]) (hn : n ≤ 1000) (hw : ∀ x, wipe ((wipe σ vs).set j (some x)) vs = wipe σ vs)
    (he : ∀ (i : Nat) H1, Ex H H1 → i < n → Ev te ((wipe σ vs).set j (some (natV i))) H1 (v i)) : EvL (tLc (iRng1 ta) (gName j) tYes te vs) σ H ((List.range n).map v) := by
  rw [← given_map]
  exact el_lcR1 (n := (n : Int)) (fun _ => true) v h (by omega) hw (fun i H1 e hi H2 e2 Q q => q H2 (Ex.refl H2)) (fun i H1 e hi _ => he i H1 e (by omega))
theorem rel_tup {xs : List V} (h : EvL te σ H xs) : EvU (tCB (rTupOf K) (tCons te tNil)) σ H xs := fun H1 e Q q =>
  h H1 e _ fun p H2 _ e2 hp => ⟨p, xs, rfl, Or.inl ⟨sq_of hp, fun l hl => q l _ (fresh_back e2 hl) (e2.trans (Ex.new hl)) upd_same⟩⟩
/-- a list that stands: its tuple -/
theorem ev_tupL {xs : List V} {p : Addr} (h : Ev te σ H (.ref p)) (hs : SqL K H p xs) : EvU (tCB (rTupOf K) (tCons te tNil)) σ H xs := fun H1 e Q q =>
  h H1 e _ fun H2 e2 => ⟨p, xs, rfl, Or.inl ⟨ex_l (e.trans e2) hs, fun l hl => q l _ (fresh_back e2 hl) (e2.trans (Ex.new hl)) upd_same⟩⟩
theorem ev_cbL {r : List V → Hp → VK → Prop} {xs : List V} (h : EvL te σ H xs) (hr : ∀ p H1, H1 p = some (.lst xs) → Ex H H1 → ∀ Q : VK, Q z H1 → r [.ref p] H1 Q) : Ev (tCB r (tCons te tNil)) σ H z := fun H1 e Q q =>
  h H1 e _ fun p H2 _ e2 hp => hr p H2 hp (e.trans e2) Q (q H2 e2)
theorem ev_lenT {p : Addr} {xs : List V} (ha : Ev ta σ H (.ref p)) (h : SqT K H p xs) : Ev (tCB (rLenS K) (tCons ta tNil)) σ H (natV xs.length) := fun H1 e Q q =>
  ha H1 e _ fun H2 e2 => ⟨p, xs, rfl, Or.inr (ex_t (e.trans e2) h), q H2 e2⟩
/-! what is returned -/
theorem s_retP {P : V → Hp → Prop} (h : EvP te σ H P) (k : ∀ v H1, Ex H H1 → P v H1 → D.rt v H1) : tRet te D σ H := h H (Ex.refl H) _ k
theorem s_asgP {i : Nat} {P : V → Hp → Prop} (h : EvP te σ H P) (k : ∀ v H1, Ex H H1 → P v H1 → D.nx (σ.set i (some v)) H1) : tAsg te (gName i) D σ H := h H (Ex.refl H) _ fun v H1 e p => k v H1 e p
theorem q_asgP {i : Nat} {P : V → Hp → Prop} (h : EvP te σ H P) (k : ∀ v H1, Ex H H1 → P v H1 → tz D (σ.set i (some v)) H1) : tSeq (tAsg te (gName i)) tz D σ H := s_asgP (D := { D with nx := tz D }) h k
end
/-! ### the automaton -/
section
variable {P : Program} {w : World} {K : PySem.W.Frag} {mg : Str → Option Value} {base : Heap} {ad : Ad} {σ : L2.St} {H H' : Hp} {ta tb te : TE} {a : Addr} {m : Aut}
theorem AutAt.mono (e : Ex H H') (h : AutAt ad H a m) : AutAt ad H' a m := let ⟨dx, wd, h1, h2⟩ := h; ⟨dx, wd, e _ _ h1, e _ _ h2⟩
theorem aut_states (m : Aut) (wd : Addr) : (autF m wd).lookup ("states" : Str) = some (natV m.n) := lk_here
theorem aut_symbols (m : Aut) (wd : Addr) : (autF m wd).lookup ("symbols" : Str) = some (natV m.k) := (lk_past (by decide +kernel)).trans lk_here
theorem aut_weights (m : Aut) (wd : Addr) : (autF m wd).lookup ("weights" : Str) = some (.ref wd) := (lk_past (by decide +kernel)).trans ((lk_past (by decide +kernel)).trans lk_here)
theorem aut_initial (m : Aut) (wd : Addr) : (autF m wd).lookup ("initial" : Str) = some (natV m.mI) := (lk_past (by decide +kernel)).trans ((lk_past (by decide +kernel)).trans ((lk_past (by decide +kernel)).trans lk_here))
theorem aut_final (m : Aut) (wd : Addr) : (autF m wd).lookup ("final" : Str) = some (natV m.mF) := (lk_past (by decide +kernel)).trans ((lk_past (by decide +kernel)).trans ((lk_past (by decide +kernel)).trans ((lk_past (by decide +kernel)).trans lk_here)))
theorem aut_no {f : Str} (m : Aut) (wd : Addr) (h1 : (f == ("states" : Str)) = false) (h2 : (f == ("symbols" : Str)) = false) (h3 : (f == ("weights" : Str)) = false) (h4 : (f == ("initial" : Str)) = false) (h5 : (f == ("final" : Str)) = false) : (autF m wd).lookup f = none :=
  (lk_past h1).trans ((lk_past h2).trans ((lk_past h3).trans ((lk_past h4).trans ((lk_past h5).trans rfl))))
theorem ev_states (T : Txt K mg ad) (A : AutAt ad H a m) (h : Ev ta σ H (.ref a)) : Ev (tFld K ta "states") σ H (natV m.n) := let ⟨_, _, h1, _⟩ := A; ev_fld h h1 T.cl_Automaton T.nA1 (aut_states _ _)
theorem ev_symbols (T : Txt K mg ad) (A : AutAt ad H a m) (h : Ev ta σ H (.ref a)) : Ev (tFld K ta "symbols") σ H (natV m.k) := let ⟨_, _, h1, _⟩ := A; ev_fld h h1 T.cl_Automaton T.nA2 (aut_symbols _ _)
theorem ev_initial (T : Txt K mg ad) (A : AutAt ad H a m) (h : Ev ta σ H (.ref a)) : Ev (tFld K ta "initial") σ H (natV m.mI) := let ⟨_, _, h1, _⟩ := A; ev_fld h h1 T.cl_Automaton T.nA4 (aut_initial _ _)
theorem ev_final (T : Txt K mg ad) (A : AutAt ad H a m) (h : Ev ta σ H (.ref a)) : Ev (tFld K ta "final") σ H (natV m.mF) := let ⟨_, _, h1, _⟩ := A; ev_fld h h1 T.cl_Automaton T.nA5 (aut_final _ _)
/-- a bit of a mask -/
theorem ev_bit {mk s : Nat} (h : Ev ta σ H (natV mk)) (hs : Ev tb σ H (natV s)) : Ev (tOp rEq (tOp rBand (tOp rShr ta tb) (tC (.int 1))) (tC (.int 1))) σ H (.bl (bit mk s)) := by
  have h1 : Ev (tOp rShr ta tb) σ H (natV (mk / 2 ^ s)) := ev_is (ev_op h hs (rv_I (Int.natCast_nonneg _))) (by
    show V.int ((mk : Int) / 2 ^ ((s : Int)).toNat) = V.int (((mk / 2 ^ s : Nat)) : Int)
    rw [Int.toNat_natCast, Int.natCast_ediv, Int.natCast_pow]
    rfl)
  have h2 : Ev (tOp rBand (tOp rShr ta tb) (tC (.int 1))) σ H (natV (mk / 2 ^ s % 2)) := ev_is (ev_op h1 (ev_cN (n := 1)) rv_I0) (by
    show V.int (Builtin.bitAnd ((mk / 2 ^ s : Nat) : Int) ((1 : Nat) : Int)) = V.int (((mk / 2 ^ s % 2 : Nat)) : Int)
    congr 1
    have e := Bits.bitAnd_mask (x := ((mk / 2 ^ s : Nat) : Int)) 1 (Int.natCast_nonneg _)
    have e1 : ((2 : Int) ^ 1 - 1) = ((1 : Nat) : Int) := by decide
    rw [e1] at e
    rw [e]
    simp)
  exact ev_is (ev_eqN h2 (ev_cN (n := 1))) (by
    unfold bit
    congr 1)
theorem pure_Automaton_knows (T : Txt K mg ad) (vs : List V) (H : Hp) (Q : VK) (E : XK) (h : sp_Automaton_knows P w K ad vs H Q E) : t_Automaton_knows P w K ad { nx := fun _ H' => Q .non H', rt := Q } (start N_Automaton_knows vs) H := by
  obtain ⟨_, _, _, _, rfl, a, m, s, i, j, rfl, rfl, rfl, rfl, A, q⟩ := h
  exact s_ret (ev_andV (ev_ltN (ev_var rfl) (ev_symbols T A (ev_var rfl))) fun _ => ev_andV (ev_ltN (ev_var rfl) (ev_states T A (ev_var rfl))) fun _ => ev_ltN (ev_var rfl) (ev_states T A (ev_var rfl))) fun H1 e => q H1 e

theorem put_nil {f : Str} {v : V} : putF f v [] = [(f, v)] := rfl
theorem aut_new (n k : Nat) (wd : Addr) : putF "final" (.int 1) (putF "initial" (.int 1) (putF "weights" (.ref wd) (putF "symbols" (natV k) (putF "states" (natV n) [])))) = autF (fresh n k) wd := by
  have a1 : putF "symbols" (natV k) ([("states", natV n)] : List (Str × V)) = ([("states", natV n), ("symbols", natV k)] : List (Str × V)) := (put_past (by decide +kernel)).trans rfl
  have a2 : putF "weights" (.ref wd) ([("states", natV n), ("symbols", natV k)] : List (Str × V)) = ([("states", natV n), ("symbols", natV k), ("weights", V.ref wd)] : List (Str × V)) := (put_past (by decide +kernel)).trans (congrArg _ ((put_past (by decide +kernel)).trans rfl))
  have a3 : putF "initial" (.int 1) ([("states", natV n), ("symbols", natV k), ("weights", V.ref wd)] : List (Str × V)) = ([("states", natV n), ("symbols", natV k), ("weights", V.ref wd), ("initial", V.int 1)] : List (Str × V)) :=
    (put_past (by decide +kernel)).trans (congrArg _ ((put_past (by decide +kernel)).trans (congrArg _ ((put_past (by decide +kernel)).trans rfl))))
  rw [put_nil, a1, a2, a3]
  exact (put_past (by decide +kernel)).trans (congrArg _ ((put_past (by decide +kernel)).trans (congrArg _ ((put_past (by decide +kernel)).trans (congrArg _ ((put_past (by decide +kernel)).trans rfl))))))
theorem pure_Automaton_init (T : Txt K mg ad) (vs : List V) (H : Hp) (Q : VK) (E : XK) (h : sp_Automaton_init P w K ad vs H Q E) : t_Automaton_init P w K ad { nx := fun _ H' => Q .non H', rt := Q } (start N_Automaton_init vs) H := by
  obtain ⟨_, _, _, rfl, p, dx, n, k, rfl, rfl, rfl, hp, hdx, q⟩ := h
  refine ⟨_, rfl, _, rfl, p, ad.a, dx, [], rfl, hp, T.cl_Automaton, T.nA1, (by show 0 < 1000; decide), ?_⟩
  refine ⟨_, rfl, _, rfl, p, ad.a, dx, _, rfl, upd_same, T.cl_Automaton, T.nA2, (by show 1 < 1000; decide), ?_⟩
  intro wd hwd
  have ne : p ≠ wd := ne_of_none upd_same hwd
  refine ⟨_, rfl, p, ad.a, dx, _, rfl, (upd_ne ne).trans upd_same, T.cl_Automaton, T.nA3, (by show 2 < 1000; decide), ?_⟩
  refine ⟨_, rfl, p, ad.a, dx, _, rfl, upd_same, T.cl_Automaton, T.nA4, (by show 3 < 1000; decide), ?_⟩
  refine ⟨_, rfl, p, ad.a, dx, _, rfl, upd_same, T.cl_Automaton, T.nA5, (by show 4 < 1000; decide), ?_⟩
  have ne' := fun z : wd = p => ne z.symm
  refine q _ ⟨dx, wd, upd_same.trans (congrArg (fun z => some (HO.ins ad.a dx z)) (aut_new n k wd)), ?_⟩ fun b o e hb => ?_
  · rw [upd_ne ne', upd_ne ne', upd_ne ne']
    exact upd_same
  · have hw : b ≠ wd := by
      rintro rfl
      rw [upd_ne ne', upd_ne ne', e] at hwd
      cases hwd
    rw [upd_ne hb, upd_ne hb, upd_ne hb, upd_ne hw, upd_ne hb, upd_ne hb]
    exact e
theorem valV_kv (l : List (Tr × Nat)) (t : Tr) : valV (kvV l) (trK t) = (look l t).map natV := by
  induction l with
  | nil => rfl
  | cons p r ih =>
    have inj : trK p.1 = trK t ↔ p.1 = t := by
      constructor
      · intro e
        unfold trK at e
        injection e with e1 e2
        injection e2 with e2 e3
        injection e3 with e3 _
        injection e1 with e1
        injection e2 with e2
        injection e3 with e3
        obtain ⟨⟨a, b, c⟩, d⟩ := p
        obtain ⟨a', b', c'⟩ := t
        simp only [Prod.mk.injEq]
        exact ⟨Int.ofNat.inj e1, Int.ofNat.inj e2, Int.ofNat.inj e3⟩
      · intro e; rw [e]
    by_cases e : p.1 = t
    · rw [look_pos e]
      show valV ((trK p.1, natV p.2) :: kvV r) (trK t) = some (natV p.2)
      rw [valV_pos (inj.mpr e)]
    · rw [look_neg e, ← ih]
      show valV ((trK p.1, natV p.2) :: kvV r) (trK t) = _
      rw [valV_neg (fun z => e (inj.mp z))]
theorem pure_Automaton_weight_of (T : Txt K mg ad) (vs : List V) (H : Hp) (Q : VK) (E : XK) (h : sp_Automaton_weight_of P w K ad vs H Q E) : t_Automaton_weight_of P w K ad { nx := fun _ H' => Q .non H', rt := Q } (start N_Automaton_weight_of vs) H := by
  obtain ⟨_, _, _, _, rfl, a, m, s, i, j, rfl, rfl, rfl, rfl, ⟨dx, wd, h1, h2⟩, q⟩ := h
  refine ⟨_, rfl, a, ad.a, dx, _, _, rfl, h1, T.cl_Automaton, T.nA3, aut_weights m wd, wd, rfl, .inr ⟨_, .inl h2⟩, ?_⟩
  refine ⟨_, rfl, _, rfl, _, rfl, (by show 3 ≤ sizeLine; decide), fun p hp => ?_⟩
  refine ⟨1, rfl, ?_⟩
  refine ⟨valV (kvV m.kvs) (trK (s, i, j)), DGet.t ((upd_ne (ne_of_none h2 hp)).trans h2) upd_same, ?_⟩
  rw [valV_kv]
  have e : ((look m.kvs (s, i, j)).map natV).getD (.int (-1)) = wV (look m.kvs (s, i, j)) := by
    cases look m.kvs (s, i, j) <;> rfl
  rw [e]
  exact q _ (Ex.new hp)
theorem pure_Automaton_is_mask (T : Txt K mg ad) (vs : List V) (H : Hp) (Q : VK) (E : XK) (h : sp_Automaton_is_mask P w K ad vs H Q E) : t_Automaton_is_mask P w K ad { nx := fun _ H' => Q .non H', rt := Q } (start N_Automaton_is_mask vs) H := by
  obtain ⟨_, _, rfl, a, m, k, rfl, rfl, A, ok, q⟩ := h
  have hs : Ev (tOp rShl (tC (.int 1)) (tFld K (tVar 0) "states")) (start N_Automaton_is_mask [.ref a, natV k]) H (natV (2 ^ m.n)) := by
    refine ev_is (ev_op (ev_cN (n := 1)) (ev_states T A (ev_var rfl)) (rv_I ⟨Int.natCast_nonneg _, ?_, by decide⟩)) ?_
    · have := ok.n3
      omega
    · show V.int (((1 : Nat) : Int) * 2 ^ ((m.n : Int)).toNat) = V.int (((2 ^ m.n : Nat)) : Int)
      rw [Int.toNat_natCast, Int.natCast_pow]
      congr 1
      show (1 : Int) * 2 ^ m.n = _
      rw [Int.one_mul]
      rfl
  exact s_ret (ev_ltN (ev_var rfl) hs) fun H1 e => q H1 e
theorem given_list {xs : List V} (v : Nat → V) : given xs.length (fun _ => true) v = (List.range xs.length).map v := given_map _ _
theorem range_get {α : Type} (l : List α) (f : α → V) (v : Nat → V) (h : ∀ i x, l[i]? = some x → v i = f x) : (List.range l.length).map v = l.map f := by
  apply List.ext_getElem?
  intro i
  rw [List.getElem?_map, List.getElem?_map]
  by_cases hi : i < l.length
  · rw [List.getElem?_range hi, List.getElem?_eq_getElem hi]
    show some (v i) = some (f l[i])
    rw [h i _ (List.getElem?_eq_getElem hi)]
  · rw [List.getElem?_eq_none (by simpa using hi), List.getElem?_eq_none (by simpa using hi)]
    rfl
/-- [f(x) for x in xs], each value known -/
theorem el_mapL {α : Type} {l : Addr} {xs : List α} {c f : α → V} {tl : TE} {j : Nat} {vs : List Nat} (h : Ev tl σ H (.ref l)) (hx : SqL K H l (xs.map c)) (hz : xs.length ≤ 40000) (hw : ∀ x, wipe ((wipe σ vs).set j (some x)) vs = wipe σ vs)
    (he : ∀ (i : Nat) (x : α) H1, Ex H H1 → xs[i]? = some x → Ev te ((wipe σ vs).set j (some (c x))) H1 (f x)) : EvL (tLc (iList K tl) (gName j) tYes te vs) σ H (xs.map f) := by
  have hl : (xs.map c).length = xs.length := List.length_map ..
  have step := el_lcL (K := K) (te := te) (t := tYes) (tl := tl) (j := j) (vs := vs) (σ := σ) (H := H) (a := l) (xs := xs.map c) (fun _ => true) (fun i => ((xs[i]?).map f).getD .non) h hx (by rw [hl]; exact hz) hw (fun i x H1 e hi H2 e2 Q q => q H2 (Ex.refl H2)) (fun i x H1 e hi _ => by
    rw [List.getElem?_map] at hi
    obtain ⟨y, hy, rfl⟩ := Option.map_eq_some_iff.mp hi
    rw [hy]
    exact he i y H1 e hy)
  rw [given_map, hl, range_get xs f _ (fun i x hi => by rw [hi]; rfl)] at step
  exact step
theorem pure_Automaton_is_word (T : Txt K mg ad) (vs : List V) (H : Hp) (Q : VK) (E : XK) (h : sp_Automaton_is_word P w K ad vs H Q E) : t_Automaton_is_word P w K ad { nx := fun _ H' => Q .non H', rt := Q } (start N_Automaton_is_word vs) H := by
  obtain ⟨_, _, rfl, a, l, m, ws, rfl, rfl, A, hl, hz, q⟩ := h
  have L := el_mapL (K := K) (σ := start N_Automaton_is_word [.ref a, .ref l]) (H := H) (te := tOp rLt (tVar 2) (tFld K (tVar 0) "symbols")) (j := 2) (vs := [2]) (c := natV) (f := fun x => V.bl (decide (x < m.k))) (xs := ws) (ev_var (i := 1) rfl) hl (by omega) (fun _ => rfl) (fun i x H1 e hi => ev_ltN (ev_var rfl) (ev_symbols T (A.mono e) (ev_var rfl)))
  have e3 : (ws.map fun x => decide (x < m.k)).all id = Kh419.isWord m.abs ws := by
    unfold Kh419.isWord
    rw [List.all_map]
    rfl
  refine s_ret (ev_cbL L fun p H1 hp e Q q => ⟨p, ws.map fun x => decide (x < m.k), rfl, sq_of (by rw [List.map_map]; exact hp), ?_⟩) fun H1 e => q H1 e
  rw [e3]
  exact q
theorem pure_Automaton_first_costs (T : Txt K mg ad) (vs : List V) (H : Hp) (Q : VK) (E : XK) (h : sp_Automaton_first_costs P w K ad vs H Q E) : t_Automaton_first_costs P w K ad { nx := fun _ H' => Q .non H', rt := Q } (start N_Automaton_first_costs vs) H := by
  obtain ⟨_, rfl, a, m, rfl, A, ok, q⟩ := h
  refine s_retU (rel_tup (el_map (n := m.n) (fun i => encF (if bit m.mI i = true then some 0 else none)) (ea_one (ev_states T A (ev_var rfl))) (by have := ok.n3; omega) (fun _ => rfl) fun i H1 e hi => ?_)) fun p H1 hp e h1 => q _ H1 e ⟨p, rfl, ?_⟩
  · refine ev_if (et_test (ev_bit (ev_initial T (A.mono e) (ev_var rfl)) (ev_var rfl))) (fun hb => ?_) (fun hb => ?_)
    · rw [hb]; exact ev_c
    · rw [hb]; exact ev_c
  · show H1 p = _
    rw [h1]
    congr 2
    unfold Kh420.initialVector
    rw [List.map_map]
    apply List.map_congr_left
    intro i hi
    show encF (if bit m.mI i = true then some 0 else none) = encF (if m.abs.initial.contains i = true then some 0 else none)
    have e2 : m.abs.initial.contains i = bit m.mI i := mask_has (List.mem_range.mp hi)
    rw [e2]
end
end Cr

/-! Readings: rows, costs. -/
namespace Cr
open PySem PySem.Spec PyProof.Rows L2 Evl Cw
section
variable {P : Program} {w : World} {K : PySem.W.Frag} {mg : Str → Option Value} {base : Heap} {ad : Ad} {σ : L2.St} {H H' : Hp} {ta tb te : TE} {a : Addr} {m : Aut}
theorem All2.snoc {α : Type} {R : Addr → α → Prop} {as : List Addr} {xs : List α} {b : Addr} {x : α} (h : All2 R as xs) (r : R b x) : All2 R (as ++ [b]) (xs ++ [x]) := by
  refine ⟨by simp [h.1], fun i c y hc hy => ?_⟩
  by_cases l : i < as.length
  · rw [List.getElem?_append_left l] at hc
    rw [List.getElem?_append_left (by rw [← h.1]; exact l)] at hy
    exact h.2 i c y hc hy
  · have l2 := (List.getElem?_eq_some_iff.mp hc).1
    rw [List.length_append, List.length_singleton] at l2
    have e : i = as.length := by omega
    subst e
    rw [List.getElem?_append_right (Nat.le_refl _), Nat.sub_self] at hc
    rw [h.1, List.getElem?_append_right (Nat.le_refl _), Nat.sub_self] at hy
    cases hc; cases hy
    exact r
theorem All2.mapR {α : Type} {R S : Addr → α → Prop} {as : List Addr} {xs : List α} (h : All2 R as xs) (f : ∀ b x, R b x → S b x) : All2 S as xs := ⟨h.1, fun i b x hb hx => f b x (h.2 i b x hb hx)⟩
theorem All2.nil {α : Type} {R : Addr → α → Prop} : All2 R [] ([] : List α) := ⟨rfl, fun i b x h => by simp at h⟩
theorem All2.at {α : Type} {R : Addr → α → Prop} {as : List Addr} {xs : List α} (h : All2 R as xs) {i : Nat} {x : α} (hx : xs[i]? = some x) : ∃ b, as[i]? = some b ∧ R b x := by
  have l := (List.getElem?_eq_some_iff.mp hx).1
  have l2 : i < as.length := by rw [h.1]; exact l
  exact ⟨as[i], List.getElem?_eq_getElem l2, h.2 i _ x (List.getElem?_eq_getElem l2) hx⟩
theorem TupI.mono {r : List Nat} (e : Ex H H') (h : TupI H a r) : TupI H' a r := e _ _ h
theorem MatAt.mono {M : Kh420.AbstractMatrix} (e : Ex H H') (h : MatAt H a M) : MatAt H' a M := let ⟨rs, h1, h2⟩ := h; ⟨rs, e _ _ h1, h2.mapR fun _ _ q => TupI.mono e q⟩
theorem RowsAt.mono {M : Kh419.Matrix} (e : Ex H H') (h : RowsAt H a M) : RowsAt H' a M := let ⟨rs, h1, h2⟩ := h; ⟨rs, e _ _ h1, h2.mapR fun _ _ q => e _ _ q⟩
theorem VecAt.mono {v : Vec} (e : Ex H H') (h : VecAt H a v) : VecAt H' a v := e _ _ h
theorem LstAt.mono {l : List Nat} (e : Ex H H') (h : LstAt K H a l) : LstAt K H' a l := ex_l e h
theorem range_snoc {α : Type} (f : Nat → α) (i : Nat) : (List.range (i + 1)).map f = (List.range i).map f ++ [f i] := by
  rw [List.range_succ, List.map_append]; rfl
theorem range_foldl {α : Type} (f : α → Nat → α) (x : α) (i : Nat) : (List.range (i + 1)).foldl f x = f ((List.range i).foldl f x) i := by
  rw [List.range_succ, List.foldl_append]; rfl
theorem start_eq {N : List Str} {vs : List V} {r : L2.St} (h : start N vs = r) {t : TS} {D : Ends} (k : t D r H) : t D (start N vs) H := by rw [h]; exact k
theorem pure_Automaton_rows_of (T : Txt K mg ad) (vs : List V) (H : Hp) (Q : VK) (E : XK) (h : sp_Automaton_rows_of P w K ad vs H Q E) : t_Automaton_rows_of P w K ad { nx := fun _ H' => Q .non H', rt := Q } (start N_Automaton_rows_of vs) H := by
  obtain ⟨_, _, rfl, a, m, s, rfl, rfl, A, ok, q⟩ := h
  refine q_asgL (el_lst ea_nil (Nat.zero_le _)) fun l0 H1 hl0 e1 h1 => ?_
  have hn := ok.n3
  refine q_forR1 (n := (m.n : Int)) (ea_one (ev_states T (A.mono e1) (ev_var rfl))) (by omega) (fun i σ' H' => ∃ (v3 : Option V) (rs : List Addr), σ' = [some (.ref a), some (natV s), some (.ref l0), v3, none] ∧ Ex H H' ∧ H' l0 = some (.lst (rs.map V.ref)) ∧
    All2 (fun b r => H' b = some (.lst (r.map wV)) ∧ b ≠ l0 ∧ H b = none) rs ((List.range i).map fun x => (List.range m.n).map fun j => look m.kvs (s, x, j))) (fun H2 e2 => ⟨none, [], rfl, e1.trans e2, e2 _ _ h1, .nil⟩) ?_ ?_
  · rintro i σ' H2 hi ⟨v3, rs, rfl, e2, hl, hr⟩
    refine s_appL (ys := ((List.range m.n).map fun j => look m.kvs (s, i, j)).map wV) hl (ev_var rfl) ?_ (by have := hr.1; simp at this; simp; omega) fun p H3 hp e3 h3 => ?_
    · rw [List.map_map]
      refine el_map (n := m.n) (fun j => wV (look m.kvs (s, i, j))) (ea_one (ev_states T (A.mono e2) (ev_var rfl))) (by omega) (fun _ => rfl) fun j H3 e3 hj => ?_
      have A3 := A.mono (e2.trans e3)
      obtain ⟨dx, wd, A1, A2⟩ := id A3
      refine ev_methV (ev_var (i := 0) rfl) A1 (aut_no m wd (by decide +kernel) (by decide +kernel) (by decide +kernel) (by decide +kernel) (by decide +kernel)) (ea_three (ev_var (i := 1) rfl) (ev_var (i := 3) rfl) (ev_var (i := 4) rfl)) fun H4 e4 Q4 q4 => ?_
      exact ⟨_, _, _, _, rfl, a, m, s, i, j, rfl, rfl, rfl, rfl, A3.mono e4, q4⟩
    · have pl : p ≠ l0 := fun z => by rw [z, hl] at hp; cases hp
      refine ⟨some (natV i), rs ++ [p], rfl, Ex.mut (e2.trans e3) hl0, ?_, ?_⟩
      · rw [List.map_append]; exact upd_same
      · rw [range_snoc]
        refine All2.snoc (hr.mapR fun b r hb => ⟨?_, hb.2⟩) ⟨?_, pl, fresh_back e2 hp⟩
        · rw [upd_ne hb.2.1]; exact e3 _ _ hb.1
        · rw [upd_ne pl]; exact h3
  · rintro σ' H2 ⟨v3, rs, rfl, e2, hl, hr⟩
    rw [Int.toNat_natCast] at hr
    refine s_ret (ev_var rfl) fun H3 e3 => q _ H3 (e2.trans e3) ⟨l0, rfl, ⟨rs, e3 _ _ hl, hr.mapR fun b r hb => e3 _ _ hb.1⟩, hl0, fun rs' h' b hb => ?_⟩
    have e4 : rs' = rs := by
      have e5 := h'.symm.trans (e3 _ _ hl)
      injection e5 with e5
      injection e5 with e5
      exact (List.map_inj_right (fun x y z => by injection z)).mp e5
    rw [e4] at hb
    obtain ⟨i, hi⟩ := List.getElem?_of_mem hb
    have li := (List.getElem?_eq_some_iff.mp hi).1
    have l2 : i < ((List.range m.n).map fun x => (List.range m.n).map fun j => look m.kvs (s, x, j)).length := by rw [← hr.1]; exact li
    exact (hr.2 i b _ hi (List.getElem?_eq_getElem l2)).2.2
/-! ### the least cost of a final state -/
theorem encI_min {x y : Option Nat} (hx : ∀ c, x = some c → c ≤ 999999) (hy : ∀ c, y = some c → c ≤ 999999) : min (encI x) (encI y) = encI (Kh419.minWeight x y) := by
  cases x with
  | none =>
    cases y with
    | none => rfl
    | some d => have := hy d rfl; show min (1000000 : Int) (d : Int) = (d : Int); omega
  | some c =>
    cases y with
    | none => have := hx c rfl; show min (c : Int) (1000000 : Int) = (c : Int); omega
    | some d => show min (c : Int) (d : Int) = ((min c d : Nat) : Int); omega
theorem min_below {x y : Option Nat} (hx : ∀ c, x = some c → c ≤ 999999) (hy : ∀ c, y = some c → c ≤ 999999) : ∀ c, Kh419.minWeight x y = some c → c ≤ 999999 := by
  intro c e
  cases x with
  | none => exact hy c (by cases y <;> exact e)
  | some a =>
    cases y with
    | none => exact hx c e
    | some b =>
      have h1 := hx a rfl
      have e : min a b = c := Option.some.inj e
      omega
theorem vec_at {v : Vec} {i : Nat} (h : i < v.length) : (v.map encF)[i]? = some (encF (v.getD i none)) := by
  rw [List.getElem?_map, List.getElem?_eq_getElem h]
  simp [List.getD, List.getElem?_eq_getElem h]
theorem ev_cost {c : Addr} {v : Vec} {i : Nat} (hc : VecAt H c v) (hi : i < v.length) (h1 : Ev ta σ H (.ref c)) (h2 : Ev tb σ H (natV i)) : Ev (tOp (rIxT K) ta tb) σ H (encF (v.getD i none)) :=
  ev_op h1 h2 (rv_ixT (st_of hc) (atI_nat (vec_at hi)))
theorem pure_Automaton_accepted_at (T : Txt K mg ad) (vs : List V) (H : Hp) (Q : VK) (E : XK) (h : sp_Automaton_accepted_at P w K ad vs H Q E) : t_Automaton_accepted_at P w K ad { nx := fun _ H' => Q .non H', rt := Q } (start N_Automaton_accepted_at vs) H := by
  obtain ⟨_, _, rfl, a, c, m, v, rfl, rfl, A, ok, hc, hv, hb, q⟩ := h
  have hn := ok.n3
  refine q_asg ev_c fun H1 e1 => ?_
  have lo : ∀ i, ∀ c, (List.range i).foldl (fun least j => if bit m.mF j = true then Kh419.minWeight least (v.getD j none) else least) none = some c → c ≤ 999999 := by
    intro i
    induction i with
    | zero => intro c e; cases e
    | succ i ih =>
      rw [range_foldl]
      split
      · exact min_below ih fun c e => below_getD hb e
      · exact ih
  refine q_forR1 (n := (m.n : Int)) (ea_one (ev_states T (A.mono e1) (ev_var rfl))) (by omega) (fun i σ' H' => ∃ (v3 : Option V), σ' = [some (.ref a), some (.ref c), some (encF ((List.range i).foldl (fun least j => if bit m.mF j = true then Kh419.minWeight least (v.getD j none) else least) none)), v3] ∧ Ex H H')
    (fun H2 e2 => ⟨none, rfl, e1.trans e2⟩) ?_ ?_
  · rintro i σ' H2 hi ⟨v3, rfl, e2⟩
    have hi : i < m.n := by omega
    refine s_when (et_test (ev_bit (ev_final T (A.mono e2) (ev_var rfl)) (ev_var (v := natV i) rfl))) (fun hbit H3 e3 => ?_) (fun hbit H3 e3 => ?_)
    · refine s_asg (v := encF ((List.range (i + 1)).foldl (fun least j => if bit m.mF j = true then Kh419.minWeight least (v.getD j none) else least) none)) ?_ fun H4 e4 => ⟨some (natV i), rfl, (e2.trans e3).trans e4⟩
      rw [range_foldl, if_pos hbit]
      refine ev_is (ev_cb (ea_two (ev_var (i := 2) rfl) (ev_cost (hc.mono (e2.trans e3)) (by omega) (ev_var (i := 1) rfl) (ev_var (i := 3) rfl))) fun H4 e4 Q4 q4 => ⟨_, _, rfl, q4 H4 (Ex.refl H4)⟩) ?_
      unfold encF
      rw [encI_min (lo i) fun c e => below_getD hb e]
    · refine ⟨some (natV i), ?_, e2.trans e3⟩
      rw [range_foldl, hbit, if_neg Bool.false_ne_true]
      rfl
  · rintro σ' H2 ⟨v3, rfl, e2⟩
    rw [Int.toNat_natCast, ← cost_bits]
    exact s_ret (ev_var rfl) fun H3 e3 => q H3 (e2.trans e3)
/-! ### one symbol more -/
theorem rows_at {r : Addr} {s i j : Nat} (hr : RowsAt H r (m.T s)) (hi : i < m.n) (hj : j < m.n) (h1 : Ev ta σ H (.ref r)) (h2 : Ev tb σ H (natV i)) (h3 : Ev te σ H (natV j)) : Ev (tOp (rIxL K) (tOp (rIxL K) ta tb) te) σ H (wV (look m.kvs (s, i, j))) := by
  obtain ⟨rs, r1, r2⟩ := hr
  have hx : (m.T s)[i]? = some ((List.range m.n).map fun j => look m.kvs (s, i, j)) := by
    unfold Aut.T
    rw [List.getElem?_map, List.getElem?_range hi]
    rfl
  obtain ⟨b, b1, b2⟩ := r2.at hx
  refine ev_op (ev_op h1 h2 (rv_ixL (sq_of r1) (atI_nat (v := .ref b) (by rw [List.getElem?_map, b1]; rfl)))) h3 (rv_ixL (sq_of b2) (atI_nat ?_))
  rw [List.map_map, List.getElem?_map, List.getElem?_range hj]
  rfl
theorem step_enc {B x c : Nat} {acc : Option Nat} (hB : B + 1 < 1000000) : min3 (encI (Kh420.capWeight B acc)) ((x : Int) + (c : Int)) ((B : Int) + 1) = encI (Kh420.capWeight B (Kh419.minWeight acc (some (x + c)))) := by
  unfold min3
  cases acc with
  | none =>
    show min (min (1000000 : Int) ((x : Int) + c)) ((B : Int) + 1) = ((min (x + c) (B + 1) : Nat) : Int)
    omega
  | some d =>
    show min (min ((min d (B + 1) : Nat) : Int) ((x : Int) + c)) ((B : Int) + 1) = ((min (min d (x + c)) (B + 1) : Nat) : Int)
    omega
theorem pure_next_costs (T : Txt K mg ad) (vs : List V) (H : Hp) (Q : VK) (E : XK) (h : sp_next_costs P w K ad vs H Q E) : t_next_costs P w K ad { nx := fun _ H' => Q .non H', rt := Q } (start N_next_costs vs) H := by
  obtain ⟨_, _, _, rfl, r, c, m, s, v, B, rfl, rfl, rfl, ok, hs, hr, hc, hv, hb, hB, q⟩ := h
  have hn := ok.n3
  refine q_asgL (el_lst ea_nil (Nat.zero_le _)) fun l0 H1 hl0 e1 h1 => ?_
  have lenc : (v.map encF).length = m.n := by rw [List.length_map]; exact hv
  have ln : ∀ {H2 : Hp} {σ2 : L2.St}, Ex H H2 → σ2[1]? = some (some (.ref c)) → EvA (tCons (tCB (rLenS K) (tCons (tVar 1) tNil)) tNil) σ2 H2 [natV m.n] := fun e h => ea_one (ev_is (ev_lenT (ev_var h) (st_of (hc.mono e))) (by rw [lenc]))
  -- what stands in the j-th place behind i sources
  let F : Nat → Nat → Option Nat := fun j i => (List.range i).foldl (fun least i => Kh419.minWeight least (Kh419.addWeights (v.getD i none) (Kh419.entry (Kh419.transitionMatrix m.abs s) i j))) none
  refine q_forR1 (n := (m.n : Int)) (ln e1 rfl) (by omega) (fun j σ' H' => ∃ (v4 v5 v6 : Option V), σ' = [some (.ref r), some (.ref c), some (.int ((B : Int) + 1)), some (.ref l0), v4, v5, v6] ∧ Ex H H' ∧ H' l0 = some (.lst ((List.range j).map fun j => encF (Kh420.capWeight B (F j m.n)))))
    (fun H2 e2 => ⟨none, none, none, rfl, e1.trans e2, e2 _ _ h1⟩) ?_ ?_
  · rintro j σ' H2 hj ⟨v4, v5, v6, rfl, e2, hl⟩
    have hj : j < m.n := by omega
    refine q_asg ev_c fun H3 e3 => ?_
    refine q_forR1 (n := (m.n : Int)) (ln (e2.trans e3) rfl) (by omega) (fun i σ' H' => ∃ (v6 : Option V), σ' = [some (.ref r), some (.ref c), some (.int ((B : Int) + 1)), some (.ref l0), some (natV j), some (encF (Kh420.capWeight B (F j i))), v6] ∧ Ex H2 H')
      (fun H4 e4 => ⟨v6, rfl, e3.trans e4⟩) ?_ ?_
    · rintro i σ' H4 hi ⟨v6, rfl, e4⟩
      have hi : i < m.n := by omega
      have e5 := e2.trans e4
      have R := rows_at (K := K) (σ := [some (.ref r), some (.ref c), some (.int ((B : Int) + 1)), some (.ref l0), some (natV j), some (encF (Kh420.capWeight B (F j i))), some (natV i)]) (hr.mono e5) hi hj (ev_var (i := 0) rfl) (ev_var (i := 6) rfl) (ev_var (i := 4) rfl)
      have C := ev_cost (K := K) (σ := [some (.ref r), some (.ref c), some (.int ((B : Int) + 1)), some (.ref l0), some (natV j), some (encF (Kh420.capWeight B (F j i))), some (natV i)]) (hc.mono e5) (i := i) (by omega) (ev_var (i := 1) rfl) (ev_var (i := 6) rfl)
      have test := et_and (et_test (ev_op R (ev_c (v := .int 0)) (rv_I0 (g := fun i j => .bl (decide (j ≤ i)))))) (b := decide (encI (v.getD i none) < 1000000)) fun _ => et_test (ev_op C (ev_c (v := .int 1000000)) (rv_I0 (g := fun i j => .bl (decide (i < j)))))
      have eT : Kh419.entry (Kh419.transitionMatrix m.abs s) i j = look m.kvs (s, i, j) := by rw [T_eq hs, entry_T hi hj]
      have sF : F j (i + 1) = Kh419.minWeight (F j i) (Kh419.addWeights (v.getD i none) (look m.kvs (s, i, j))) := by
        show (List.range (i + 1)).foldl _ none = _
        rw [range_foldl, eT]
      refine s_when test (fun hbit H5 e6 => ?_) (fun hbit H5 e6 => ?_)
      · cases hw : look m.kvs (s, i, j) with
        | none => rw [hw] at hbit; exact absurd hbit (by simp [Kh419.encodeWeight])
        | some y =>
          cases hx : v.getD i none with
          | none => rw [hx] at hbit; exact absurd hbit (by simp [encI])
          | some x =>
            rw [hw] at R
            rw [hx] at C
            refine s_asg (v := encF (Kh420.capWeight B (F j (i + 1)))) ?_ fun H6 e7 => ⟨some (natV i), rfl, (e4.trans e6).trans e7⟩
            rw [sF, hw, hx]
            refine ev_is (ev_cb (ea_three (ev_var (i := 5) rfl) (ev_op (C.mono e6) (R.mono e6) rv_I0) (ev_var (i := 2) rfl)) fun H6 e7 Q6 q6 => ⟨_, _, _, rfl, q6 H6 (Ex.refl H6)⟩) ?_
            unfold encF
            exact congrArg V.int (step_enc hB)
      · refine ⟨some (natV i), ?_, e4.trans e6⟩
        have : Kh419.addWeights (v.getD i none) (look m.kvs (s, i, j)) = none := by
          cases hx : v.getD i none with
          | none => rfl
          | some x =>
            cases hw : look m.kvs (s, i, j) with
            | none => rfl
            | some y =>
              have l := below_getD hb hx
              rw [hx, hw] at hbit
              have h1 : decide ((0 : Int) ≤ Kh419.encodeWeight (some y)) = true := by simp [Kh419.encodeWeight]
              have h2 : decide (encI (some x) < 1000000) = true := decide_eq_true (by show (x : Int) < 1000000; omega)
              rw [h1, h2] at hbit
              cases hbit
        rw [sF, this]
        have e0 : Kh419.minWeight (F j i) none = F j i := by cases F j i <;> rfl
        rw [e0]
        rfl
    · rintro σ' H4 ⟨v6, rfl, e4⟩
      rw [Int.toNat_natCast]
      refine s_app (e4 _ _ hl) (ev_var rfl) (ev_var rfl) (by simp; omega) fun H5 e5 => ⟨some (natV j), some (encF (Kh420.capWeight B (F j m.n))), v6, rfl, Ex.mut ((e2.trans e4).trans e5) hl0, ?_⟩
      rw [range_snoc]
      exact upd_same
  · rintro σ' H2 ⟨v4, v5, v6, rfl, e2, hl⟩
    rw [Int.toNat_natCast] at hl
    refine s_retU (ev_tupL (ev_var rfl) (sq_of hl)) fun p H3 hp e3 h3 => q _ H3 (e2.trans e3) ⟨p, rfl, ?_⟩
    show H3 p = _
    rw [h3]
    congr 2
    unfold Kh420.stepVector
    rw [List.map_map]
    rfl

/-! ### the cost of a word -/
theorem vecB_snoc (a : Au) (B : Nat) (ws : List Nat) (s : Nat) : vecB a B (ws ++ [s]) = Kh420.stepVector a B (vecB a B ws) s := by
  unfold vecB
  rw [List.foldl_append]; rfl
theorem take_snoc {α : Type} {l : List α} {i : Nat} {x : α} (h : l[i]? = some x) : l.take (i + 1) = l.take i ++ [x] := by
  rw [List.take_add_one, h]; rfl
theorem vecB_below {m : Aut} (ok : m.Ok) {ws : List Nat} (h : ws.length ≤ 1000) : Below 999999 (vecB m.abs 999998 ws) := by
  intro x hx c e
  have := vecB_le m.abs 999998 ws x hx c e
  omega
theorem map_get {α β : Type} {f : α → β} {l : List α} {i : Nat} {y : β} (h : (l.map f)[i]? = some y) : ∃ x, l[i]? = some x ∧ y = f x := by
  rw [List.getElem?_map] at h
  obtain ⟨x, hx, e⟩ := Option.map_eq_some_iff.mp h
  exact ⟨x, hx, e.symm⟩
theorem pure_cost_of (T : Txt K mg ad) (vs : List V) (H : Hp) (Q : VK) (E : XK) (h : sp_cost_of P w K ad vs H Q E) : t_cost_of P w K ad { nx := fun _ H' => Q .non H', rt := Q } (start N_cost_of vs) H := by
  obtain ⟨_, _, rfl, a, l, m, ws, rfl, rfl, A, ok, hl, hw, hz, q⟩ := h
  have no : ∀ (f : Str) (wd : Addr), (f == ("states" : Str)) = false → (f == ("symbols" : Str)) = false → (f == ("weights" : Str)) = false → (f == ("initial" : Str)) = false → (f == ("final" : Str)) = false → (autF m wd).lookup f = none := fun f wd => aut_no m wd
  have first : EvP (tMeth ad.a "first_costs" (sp_Automaton_first_costs P w K ad) [] E0 (tVar 0) tNil) (start N_cost_of [.ref a, .ref l]) H (RefP fun H' p => VecAt H' p (Kh420.initialVector m.abs)) := by
    obtain ⟨dx, wd, A1, A2⟩ := id A
    refine evp_meth (ev_var (i := 0) rfl) A1 (no _ wd (by decide +kernel) (by decide +kernel) (by decide +kernel) (by decide +kernel) (by decide +kernel)) (evpa_ea ea_nil) fun vs H1 e1 ev Q1 q1 => ?_
    subst ev
    exact ⟨_, rfl, a, m, rfl, A.mono e1, ok, q1⟩
  refine q_asgP first fun v H1 e1 ⟨p, ev, hp⟩ => ?_
  subst ev
  refine q_forLn (a := l) (xs := intsV ws) (ev_var (i := 1) rfl) (hl.mono e1) (fun i σ' H' => ∃ (c : Addr) (v3 : Option V), σ' = [some (.ref a), some (.ref l), some (.ref c), v3, none] ∧ Ex H H' ∧ VecAt H' c (vecB m.abs 999998 (ws.take i)))
    (fun H2 e2 => ⟨p, none, rfl, e1.trans e2, hp.mono e2⟩) (fun i σ' H' _ ⟨_, _, _, e2, _⟩ => hl.mono e2) ?_ ?_
  · rintro i x σ' H2 hx ⟨c, v3, rfl, e2, hc⟩
    obtain ⟨s, hs, rfl⟩ := map_get hx
    have li := (List.getElem?_eq_some_iff.mp hs).1
    have hsk := hw s (List.mem_of_getElem? hs)
    have lt : (ws.take i).length ≤ 1000 := by rw [List.length_take]; omega
    obtain ⟨dx, wd, A1, A2⟩ := id (A.mono e2)
    have rows : EvP (tMeth ad.a "rows_of" (sp_Automaton_rows_of P w K ad) [] E0 (tVar 0) (tCons (tVar 3) tNil)) [some (.ref a), some (.ref l), some (.ref c), some (natV s), none] H2 (RefP fun H' p => RowsAt H' p (m.T s)) := by
      refine evp_meth (ev_var (i := 0) rfl) A1 (no _ wd (by decide +kernel) (by decide +kernel) (by decide +kernel) (by decide +kernel) (by decide +kernel)) (evpa_ea (ea_one (ev_var (i := 3) rfl))) fun vs H1 e1 ev Q1 q1 => ?_
      subst ev
      exact ⟨_, _, rfl, a, m, s, rfl, rfl, (A.mono e2).mono e1, ok, fun v H3 e3 ⟨p, ep, hp, _⟩ => q1 v H3 e3 ⟨p, ep, hp⟩⟩
    refine s_asgP (evp_call (P := RefP fun H' p => VecAt H' p (Kh420.stepVector m.abs 999998 (vecB m.abs 999998 (ws.take i)) s)) (evpa_cons (R := fun v us H' => us = [.ref c, .int 999999] ∧ ∃ r, v = .ref r ∧ RowsAt H' r (m.T s)) rows fun v H3 e3 ⟨r, ev, hr⟩ => fun H4 e4 Q4 q4 => ?_) fun vs H3 e3 hvs Q3 q3 => ?_) fun v H3 e3 ⟨p3, ev, hp3⟩ => ?_
    · refine ea_two (ev_var (i := 2) rfl) (ev_op (ev_c (v := .int 1000000)) (ev_c (v := .int 1)) rv_I0) H4 (Ex.refl H4) Q4 fun H5 e5 => q4 _ H5 e5 ⟨rfl, r, ev, hr.mono (e4.trans e5)⟩
    · obtain ⟨v, us, rfl, rfl, r, rfl, hr⟩ := hvs
      exact ⟨_, _, _, rfl, r, c, m, s, vecB m.abs 999998 (ws.take i), 999998, rfl, rfl, rfl, ok, hsk, hr, hc.mono e3, vecB_len m.abs 999998 _, vecB_below ok lt, by decide, q3⟩
    · subst ev
      refine ⟨p3, some (natV s), rfl, e2.trans e3, ?_⟩
      rw [take_snoc hs, vecB_snoc]
      exact hp3
  · rintro σ' H2 ⟨c, v3, rfl, e2, hc⟩
    rw [show (intsV ws).length = ws.length from List.length_map .., List.take_length] at hc
    obtain ⟨dx, wd, A1, A2⟩ := id (A.mono e2)
    have eq1 := cost_vecB (small_abs m) (entry_le ok) (B := 999998) (w := ws) (by omega)
    have acc : Ev (tMeth ad.a "accepted_at" (sp_Automaton_accepted_at P w K ad) [] E0 (tVar 0) (tCons (tVar 2) tNil)) [some (.ref a), some (.ref l), some (.ref c), v3, none] H2 (encF (Kh419.cost m.abs ws)) := by
      rw [eq1]
      refine ev_methV (ev_var (i := 0) rfl) A1 (no _ wd (by decide +kernel) (by decide +kernel) (by decide +kernel) (by decide +kernel) (by decide +kernel)) (ea_one (ev_var (i := 2) rfl)) fun H3 e3 Q3 q3 => ?_
      exact ⟨_, _, rfl, a, c, m, vecB m.abs 999998 ws, rfl, rfl, (A.mono e2).mono e3, ok, hc.mono e3, vecB_len m.abs 999998 _, vecB_below ok hz, q3⟩
    refine q_asg acc fun H3 e3 => ?_
    have lo : ∀ c, Kh419.cost m.abs ws = some c → c ≤ 999999 := by
      intro c ec
      rw [eq1, vecB_cap, cost_cap] at ec
      cases q : Kh420.vectorCost m.abs (vecT m.abs ws) with
      | none => rw [q] at ec; cases ec
      | some d =>
        rw [q] at ec
        have : min d (999998 + 1) = c := Option.some.inj ec
        omega
    refine s_ret (v := wV (Kh419.cost m.abs ws)) (ev_if (et_test (ev_op (ev_var (i := 4) rfl) (ev_c (v := .int 1000000)) (rv_I0 (g := fun i j => .bl (decide (i < j)))))) (fun hb => ?_) fun hb => ?_) fun H4 e4 => q H4 ((e2.trans e3).trans e4)
    · refine ev_is (ev_var (i := 4) rfl) ?_
      cases q : Kh419.cost m.abs ws with
      | none => rw [q] at hb; exact absurd hb (by decide)
      | some c => rfl
    · refine ev_is (ev_negN (ev_cN (n := 1))) ?_
      cases q : Kh419.cost m.abs ws with
      | none => rfl
      | some c =>
        have := lo c q
        rw [q] at hb
        have h2 : decide (encI (some c) < 1000000) = true := decide_eq_true (by show (c : Int) < 1000000; omega)
        rw [h2] at hb
        cases hb
end
end Cr

/-! Readings: matrices. -/
namespace Cr
open PySem PySem.Spec PyProof.Rows L2 Evl Cw
section
variable {P : Program} {w : World} {K : PySem.W.Frag} {mg : Str → Option Value} {base : Heap} {ad : Ad} {σ : L2.St} {H H' : Hp} {ta tb tc te : TE} {a : Addr} {m : Aut} {D : Ends}
theorem pure_entry_of (T : Txt K mg ad) (vs : List V) (H : Hp) (Q : VK) (E : XK) (h : sp_entry_of P w K ad vs H Q E) : t_entry_of P w K ad { nx := fun _ H' => Q .non H', rt := Q } (start N_entry_of vs) H := by
  obtain ⟨_, rfl, c, rfl, q⟩ := h
  refine s_ret (v := natV (Kh420.abstractWeight c)) (ev_if (et_test (ev_op (ev_var (v := wV c) rfl) (ev_c (v := .int 0)) (rv_I0 (g := fun i j => .bl (decide (i < j)))))) (fun hb => ?_) fun hb => ?_) fun H1 e => q H1 e
  · cases c with
    | none => exact ev_cN
    | some d =>
      exfalso
      have := of_decide_eq_true hb
      have : (d : Int) < 0 := this
      omega
  · cases c with
    | none => exact absurd hb (by decide)
    | some d =>
      refine ev_is (ev_cb (ea_two (ev_var (v := .int (d : Int)) rfl) (ev_c (v := .int 1))) fun H4 e4 Q4 q4 => ⟨_, _, rfl, q4 H4 (Ex.refl H4)⟩) ?_
      cases d with
      | zero => rfl
      | succ d =>
        show V.int (min ((d + 1 : Nat) : Int) 1) = V.int ((1 : Nat) : Int)
        congr 1
        omega
theorem pure_looped (T : Txt K mg ad) (vs : List V) (H : Hp) (Q : VK) (E : XK) (h : sp_looped P w K ad vs H Q E) : t_looped P w K ad { nx := fun _ H' => Q .non H', rt := Q } (start N_looped vs) H := by
  obtain ⟨_, rfl, c, rfl, q⟩ := h
  refine s_ret (v := natV (Kh420.repeatedLoop c)) (ev_if (et_test (ev_eqN (ev_var (v := natV c) rfl) (ev_cN (n := 1)))) (fun hb => ?_) fun hb => ?_) fun H1 e => q H1 e
  · unfold Kh420.repeatedLoop
    rw [if_pos (of_decide_eq_true hb)]
    exact ev_cN
  · unfold Kh420.repeatedLoop
    rw [if_neg (of_decide_eq_false hb)]
    exact ev_var rfl
/-! ### lists of new tuples -/
/-- only tuples are asked for -/
def OnlyT (R : Hp → V → Prop) : Prop := ∀ (H1 H2 : Hp) (v : V), (∀ b xs, H1 b = some (.tup xs) → H2 b = some (.tup xs)) → R H1 v → R H2 v
theorem evp_lcT {l : Addr} {xs : List V} {tl : TE} {j : Nat} {vs : List Nat} (R : Nat → Hp → V → Prop) (only : ∀ i, OnlyT (R i)) (h : Ev tl σ H (.ref l)) (hx : SqL K H l xs) (hz : xs.length ≤ 40000) (hw : ∀ x, wipe ((wipe σ vs).set j (some x)) vs = wipe σ vs)
    (he : ∀ i x H1, Ex H H1 → xs[i]? = some x → EvP te ((wipe σ vs).set j (some x)) H1 (fun v H2 => R i H2 v)) :
    EvP (tLc (iList K tl) (gName j) tYes te vs) σ H (fun v H2 => ∃ p ys, v = .ref p ∧ H2 p = some (.lst ys) ∧ ys.length = xs.length ∧ ∀ (i : Nat) (y : V), ys[i]? = some y → R i H2 y) := fun H0 e Q q => h H0 e _ fun H1 e1 => by
  refine ⟨l, rfl, ⟨xs, ex_l (e.trans e1) hx⟩, fun Dl hD => ?_⟩
  refine lc_list (K := K) (a := l) (xs := xs) (fun i H' => H1 Dl = none ∧ Ex H1 H' ∧ ∃ ys, H' Dl = some (.lst ys) ∧ ys.length = i ∧ ∀ (k : Nat) (y : V), ys[k]? = some y → R k H' y) ⟨hD, Ex.new hD, [], upd_same, rfl, fun k y hk => by simp at hk⟩ (fun i H' _ p => ex_l ((e.trans e1).trans p.2.1) hx) ?_ ?_
  · rintro i x H' hi ⟨_, e2, ys, hy, hl, hr⟩
    refine ⟨hw x, ?_⟩
    show te _ H' _
    refine he i x H' ((e.trans e1).trans e2) hi H' (Ex.refl H') _ fun v H2 e3 r => ?_
    have hi' := (List.getElem?_eq_some_iff.mp hi).1
    have keep : ∀ b xs, H2 b = some (.tup xs) → (upd H2 Dl (.lst (ys ++ [v]))) b = some (.tup xs) := fun b zs hb => by
      rw [upd_ne (fun z => by rw [z, e3 _ _ hy] at hb; cases hb)]
      exact hb
    refine ⟨ys, e3 _ _ hy, sz_lt (by omega), hD, Ex.mut (e2.trans e3) hD, ys ++ [v], upd_same, by simp [hl], fun k y hk => ?_⟩
    by_cases lk : k < ys.length
    · rw [List.getElem?_append_left lk] at hk
      exact only k _ _ y (fun b zs hb => keep b zs (e3 _ _ hb)) (hr k y hk)
    · have l2 := (List.getElem?_eq_some_iff.mp hk).1
      rw [List.length_append, List.length_singleton] at l2
      have ek : k = i := by omega
      rw [List.getElem?_append_right (by omega), show k - ys.length = 0 by omega] at hk
      cases hk
      rw [ek]
      exact only i _ _ v keep r
  · rintro H' ⟨_, e2, ys, hy, hl, hr⟩
    exact q _ H' (e1.trans e2) ⟨Dl, ys, rfl, hy, hl, hr⟩
/-- its tuple -/
theorem evp_tup {X : List V → Hp → Prop} (mono : ∀ ys H1 H2, Ex H1 H2 → X ys H1 → X ys H2) (h : EvP te σ H (fun v H2 => ∃ p ys, v = .ref p ∧ H2 p = some (.lst ys) ∧ X ys H2)) : EvP (tCB (rTupOf K) (tCons te tNil)) σ H (fun v H2 => ∃ p ys, v = .ref p ∧ H2 p = some (.tup ys) ∧ X ys H2) := fun H1 e Q q =>
  h H1 e _ fun v H2 e2 ⟨p, ys, ev, hp, hx⟩ => ⟨p, ys, by rw [ev], Or.inl ⟨sq_of hp, fun l hl => q _ _ (e2.trans (Ex.new hl)) ⟨l, ys, rfl, upd_same, mono _ _ _ (Ex.new hl) hx⟩⟩⟩
theorem mat_of_items {ys : List V} {M : Kh420.AbstractMatrix} {p : Addr} (hp : H p = some (.tup ys)) (hl : ys.length = M.length) (h : ∀ (i : Nat) (y : V), ys[i]? = some y → ∃ b, y = .ref b ∧ ∀ r, M[i]? = some r → TupI H b r) : MatAt H p M := by
  have key : ∃ rs : List Addr, ys = rs.map V.ref := by
    clear hp hl
    have h' : ∀ y ∈ ys, ∃ b, y = V.ref b := fun y hy => by
      obtain ⟨i, hi⟩ := List.getElem?_of_mem hy
      obtain ⟨b, hb, _⟩ := h i y hi
      exact ⟨b, hb⟩
    clear h
    induction ys with
    | nil => exact ⟨[], rfl⟩
    | cons y r ih =>
      obtain ⟨b, hb⟩ := h' y List.mem_cons_self
      obtain ⟨rs, hr⟩ := ih fun z hz => h' z (List.mem_cons_of_mem _ hz)
      exact ⟨b :: rs, by rw [hb, hr]; rfl⟩
  obtain ⟨rs, rfl⟩ := key
  refine ⟨rs, hp, by simpa using hl, fun i b x hb hx => ?_⟩
  obtain ⟨b', e, hr⟩ := h i (.ref b) (by rw [List.getElem?_map, hb]; rfl)
  cases e
  exact hr x hx
theorem pure_matrix_of (T : Txt K mg ad) (vs : List V) (H : Hp) (Q : VK) (E : XK) (h : sp_matrix_of P w K ad vs H Q E) : t_matrix_of P w K ad { nx := fun _ H' => Q .non H', rt := Q } (start N_matrix_of vs) H := by
  obtain ⟨_, rfl, r, M, rfl, ⟨rs, h1, h2⟩, hM, hM2, q⟩ := h
  have hrs : rs.length ≤ 3 := by rw [h2.1]; exact hM
  have mid := evp_lcT (K := K) (σ := start N_matrix_of [.ref r]) (H := H) (te := tCB (rTupOf K) (tCons (tLc (iList K (tVar 1)) (gName 2) tYes (tCall (sp_entry_of P w K ad) [] E0 (tCons (tVar 2) tNil)) [2]) tNil)) (j := 1) (vs := [1])
    (fun i H' v => ∃ b, v = .ref b ∧ ∀ row, (Kh420.abstractOf M)[i]? = some row → TupI H' b row) (fun i H1 H2 v k ⟨b, ev, hb⟩ => ⟨b, ev, fun row hr => k _ _ (hb row hr)⟩) (ev_var (i := 0) rfl) (sq_of h1) (by rw [List.length_map]; omega) (fun _ => rfl) (fun i x H1 e1 hx => ?_)
  · refine s_retP (evp_tup (fun ys H1 H2 e z => ⟨z.1, fun i y hy => let ⟨b, eb, hb⟩ := z.2 i y hy; ⟨b, eb, fun row hr => e _ _ (hb row hr)⟩⟩) mid) fun v H1 e1 ⟨p, ys, ev, hp, hl, hy⟩ => q v H1 e1 ⟨p, ev, mat_of_items hp ?_ hy⟩
    rw [hl, List.length_map, h2.1]
    unfold Kh420.abstractOf
    rw [List.length_map]
  · obtain ⟨b, hb, rfl⟩ := map_get hx
    have li := (List.getElem?_eq_some_iff.mp hb).1
    have hMi : M[i]? = some (M[i]'(by rw [← h2.1]; exact li)) := List.getElem?_eq_getElem _
    have hrow := h2.2 i b _ hb hMi
    have hlen := hM2 _ (List.getElem_mem (by rw [← h2.1]; exact li : i < M.length))
    generalize M[i]'(by rw [← h2.1]; exact li) = row at hMi hrow hlen
    have inner := el_mapL (K := K) (σ := (wipe (start N_matrix_of [.ref r]) [1]).set 1 (some (.ref b))) (H := H1) (te := tCall (sp_entry_of P w K ad) [] E0 (tCons (tVar 2) tNil)) (j := 2) (vs := [2]) (c := wV) (f := fun c => natV (Kh420.abstractWeight c)) (xs := row)
      (ev_var (i := 1) rfl) (sq_of (e1 _ _ hrow)) (by omega) (fun _ => rfl) (fun k x H2 e2 hk => ev_callV (ea_one (ev_var (i := 2) rfl)) fun H3 e3 Q3 q3 => ⟨_, rfl, x, rfl, q3⟩)
    refine evp_weak (evp_elU (rel_tup inner)) fun v H2 e2 ⟨p, ev, hp⟩ => ⟨p, ev, fun row' hr' => ?_⟩
    have er : row' = row.map Kh420.abstractWeight := by
      unfold Kh420.abstractOf at hr'
      rw [List.getElem?_map, hMi] at hr'
      exact (Option.some.inj hr').symm
    rw [er]
    show H2 p = _
    rw [hp]
    unfold intsV
    rw [List.map_map]
    rfl
/-! ### a list filled row by row -/
/-- the rows made so far -/
def RowsT (H' : Hp) (l : Addr) (n : Nat) (f : Nat → List Nat) : Prop := ∃ rs : List Addr, H' l = some (.lst (rs.map V.ref)) ∧ All2 (TupI H') rs ((List.range n).map f)
theorem RowsT.snoc {l p : Addr} {n : Nat} {f : Nat → List Nat} {rs : List Addr} (hl : H l = some (.lst (rs.map V.ref))) (hr : All2 (TupI H) rs ((List.range n).map f)) (hp : TupI H p (f n)) : RowsT (upd H l (.lst (rs.map V.ref ++ [.ref p]))) l (n + 1) f := by
  refine ⟨rs ++ [p], by rw [List.map_append]; exact upd_same, ?_⟩
  rw [range_snoc]
  have k : ∀ b r, TupI H b r → TupI (upd H l (.lst (rs.map V.ref ++ [.ref p]))) b r := fun b r hb => by
    show upd _ _ _ _ = _
    rw [upd_ne (fun z => by rw [z] at hb; rw [show H l = _ from hb] at hl; cases hl)]
    exact hb
  exact All2.snoc (hr.mapR k) (k _ _ hp)
theorem RowsT.mono {l : Addr} {n : Nat} {f : Nat → List Nat} (e : Ex H H') (h : RowsT H l n f) : RowsT H' l n f := let ⟨rs, h1, h2⟩ := h; ⟨rs, e _ _ h1, h2.mapR fun _ _ q => e _ _ q⟩
theorem evp_rows {l : Addr} {n : Nat} {f : Nat → List Nat} (h : Ev te σ H (.ref l)) (hr : RowsT H l n f) : EvP (tCB (rTupOf K) (tCons te tNil)) σ H (RefP fun H' p => MatAt H' p ((List.range n).map f)) := by
  obtain ⟨rs, h1, h2⟩ := hr
  refine evp_weak (evp_elU (ev_tupL h (sq_of h1))) fun v H2 e ⟨p, ev, hp⟩ => ⟨p, ev, rs, hp, h2.mapR fun _ _ q => e _ _ q⟩
theorem pure_unit_of (T : Txt K mg ad) (vs : List V) (H : Hp) (Q : VK) (E : XK) (h : sp_unit_of P w K ad vs H Q E) : t_unit_of P w K ad { nx := fun _ H' => Q .non H', rt := Q } (start N_unit_of vs) H := by
  obtain ⟨_, rfl, n, rfl, hn, q⟩ := h
  let f : Nat → List Nat := fun i => (List.range n).map fun j => if i = j then 0 else 3
  refine q_asgL (el_lst ea_nil (Nat.zero_le _)) fun l0 H1 hl0 e1 h1 => ?_
  refine q_forR1 (n := (n : Int)) (ea_one (ev_var (i := 0) rfl)) (by omega) (fun i σ' H' => ∃ (v2 : Option V), σ' = [some (natV n), some (.ref l0), v2, none] ∧ Ex H H' ∧ RowsT H' l0 i f) (fun H2 e2 => ⟨none, rfl, e1.trans e2, [], e2 _ _ h1, .nil⟩) ?_ ?_
  · rintro i σ' H2 hi ⟨v2, rfl, e2, rs, hl, hr⟩
    have row : EvL (tLc (iRng1 (tCons (tVar 0) tNil)) (gName 3) tYes (tIf (tTest (tOp rEq (tVar 2) (tVar 3))) (tC (.int 0)) (tC (.int 3))) [3]) [some (natV n), some (.ref l0), some (natV i), none] H2 (intsV (f i)) := by
      unfold intsV
      rw [List.map_map]
      refine el_map (n := n) _ (ea_one (ev_var (i := 0) rfl)) (by omega) (fun _ => rfl) fun j H3 e3 hj => ?_
      refine ev_if (et_test (ev_eqN (ev_var (i := 2) rfl) (ev_var (v := natV j) (i := 3) rfl))) (fun hb => ?_) fun hb => ?_
      · have e : i = j := of_decide_eq_true hb
        show Ev _ _ _ (natV (if i = j then 0 else 3))
        rw [if_pos e]; exact ev_cN
      · have e : ¬ i = j := of_decide_eq_false hb
        show Ev _ _ _ (natV (if i = j then 0 else 3))
        rw [if_neg e]; exact ev_cN
    refine s_appU hl (ev_var (i := 1) rfl) (rel_tup row) (by have := hr.1; simp at this; simp; omega) fun p H3 hp e3 h3 => ⟨some (natV i), rfl, Ex.mut (e2.trans e3) hl0, RowsT.snoc (e3 _ _ hl) (hr.mapR fun _ _ z => e3 _ _ z) h3⟩
  · rintro σ' H2 ⟨v2, rfl, e2, hr⟩
    rw [Int.toNat_natCast] at hr
    refine s_retP (evp_rows (ev_var (i := 1) rfl) hr) fun v H3 e3 ⟨p, ev, hp⟩ => q v H3 (e2.trans e3) ⟨p, ev, ?_⟩
    rw [abs_id]
    exact hp
/-! ### products -/
theorem ev_entry {M : Kh420.AbstractMatrix} {n i j : Nat} (h : MatAt H a M) (ok : MOk n M) (hi : i < n) (hj : j < n) (h1 : Ev ta σ H (.ref a)) (h2 : Ev tb σ H (natV i)) (h3 : Ev tc σ H (natV j)) : Ev (tOp (rIxT K) (tOp (rIxT K) ta tb) tc) σ H (natV (Kh420.entry M i j)) := by
  obtain ⟨rs, r1, r2⟩ := h
  obtain ⟨r, hr, hx, _⟩ := ok.at hi hj
  obtain ⟨b, b1, b2⟩ := r2.at hr
  refine ev_op (ev_op h1 h2 (rv_ixT (st_of r1) (atI_nat (v := .ref b) (by rw [List.getElem?_map, b1]; rfl)))) h3 (rv_ixT (st_of b2) (atI_nat ?_))
  unfold intsV
  rw [List.getElem?_map, hx]
  rfl
theorem ev_max2N {x y : Nat} (h1 : Ev ta σ H (natV x)) (h2 : Ev tb σ H (natV y)) : Ev (tCB rMax2 (tCons ta (tCons tb tNil))) σ H (natV (max x y)) :=
  ev_is (ev_cb (ea_two h1 h2) fun H4 e4 Q4 q4 => ⟨_, _, rfl, q4 H4 (Ex.refl H4)⟩) (by show V.int (max (x : Int) (y : Int)) = V.int ((max x y : Nat) : Int); congr 1; omega)
theorem ev_max3N {x y z : Nat} (h1 : Ev ta σ H (natV x)) (h2 : Ev tb σ H (natV y)) (h3 : Ev tc σ H (natV z)) : Ev (tCB rMax3 (tCons ta (tCons tb (tCons tc tNil)))) σ H (natV (max x (max y z))) :=
  ev_is (ev_cb (ea_three h1 h2 h3) fun H4 e4 Q4 q4 => ⟨_, _, _, rfl, q4 H4 (Ex.refl H4)⟩) (by unfold max3; show V.int (max (max (x : Int) (y : Int)) (z : Int)) = V.int ((max x (max y z) : Nat) : Int); congr 1; omega)
theorem ev_min2N {x y : Nat} (h1 : Ev ta σ H (natV x)) (h2 : Ev tb σ H (natV y)) : Ev (tCB rMin2 (tCons ta (tCons tb tNil))) σ H (natV (min x y)) :=
  ev_is (ev_cb (ea_two h1 h2) fun H4 e4 Q4 q4 => ⟨_, _, rfl, q4 H4 (Ex.refl H4)⟩) (by show V.int (min (x : Int) (y : Int)) = V.int ((min x y : Nat) : Int); congr 1; omega)
theorem min_rule {n : Nat} {f : Nat → Nat} (h0 : 0 < n) (hf : ∀ k, k < n → f k ≤ 3) {p : Addr} (hp : SqL K H p ((List.range n).map fun k => natV (f k))) {Q : VK} (q : Q (natV (Kh420.minimumOver n f)) H) : rMin K [.ref p] H Q := by
  refine ⟨p, (List.range n).map fun k => ((f k : Nat) : Int), rfl, by rw [List.map_map]; exact hp, by simp; omega, fun m hm hl => ?_⟩
  rw [min_is h0 hf hm hl]
  exact q
theorem pure_product (T : Txt K mg ad) (vs : List V) (H : Hp) (Q : VK) (E : XK) (h : sp_product P w K ad vs H Q E) : t_product P w K ad { nx := fun _ H' => Q .non H', rt := Q } (start N_product vs) H := by
  obtain ⟨_, _, rfl, a, b, n, M, N, rfl, rfl, n1, n3, hM, hN, okM, okN, q⟩ := h
  let g : Nat → Nat → Nat := fun i j => Kh420.minimumOver n fun k => max (Kh420.entry M i k) (Kh420.entry N k j)
  obtain ⟨rs, hM1, hM2⟩ := id hM
  refine q_asg (v := natV n) (ev_is (ev_lenT (ev_var (i := 0) rfl) (st_of hM1)) (by rw [List.length_map, hM2.1, okM.len])) fun H0 e0 => ?_
  refine q_asgL (el_lst ea_nil (Nat.zero_le _)) fun l0 H1 hl0 e1 h1 => ?_
  have hl0 := fresh_back e0 hl0
  refine q_forR1 (n := (n : Int)) (ea_one (ev_var (i := 2) rfl)) (by omega) (fun i σ' H' => ∃ (v4 v5 v6 : Option V), σ' = [some (.ref a), some (.ref b), some (natV n), some (.ref l0), v4, v5, v6, none] ∧ Ex H H' ∧ RowsT H' l0 i fun i => (List.range n).map (g i))
    (fun H2 e2 => ⟨none, none, none, rfl, (e0.trans e1).trans e2, [], e2 _ _ h1, .nil⟩) ?_ ?_
  · rintro i σ' H2 hi ⟨v4, v5, v6, rfl, e2, hT⟩
    have hi : i < n := by omega
    refine q_asgL (el_lst ea_nil (Nat.zero_le _)) fun l1 H3 hl1 e3 h3 => ?_
    refine q_forR1 (n := (n : Int)) (ea_one (ev_var (i := 2) rfl)) (by omega) (fun j σ' H' => ∃ (v6 : Option V), σ' = [some (.ref a), some (.ref b), some (natV n), some (.ref l0), some (natV i), some (.ref l1), v6, none] ∧ Ex H2 H' ∧ H' l1 = some (.lst ((List.range j).map fun j => natV (g i j))))
      (fun H4 e4 => ⟨v6, rfl, e3.trans e4, e4 _ _ h3⟩) ?_ ?_
    · rintro j σ' H4 hj ⟨v6, rfl, e4, hl⟩
      have hj : j < n := by omega
      have e5 := e2.trans e4
      have list : EvL (tLc (iRng1 (tCons (tVar 2) tNil)) (gName 7) tYes (tCB rMax2 (tCons (tOp (rIxT K) (tOp (rIxT K) (tVar 0) (tVar 4)) (tVar 7)) (tCons (tOp (rIxT K) (tOp (rIxT K) (tVar 1) (tVar 7)) (tVar 6)) tNil))) [7]) [some (.ref a), some (.ref b), some (natV n), some (.ref l0), some (natV i), some (.ref l1), some (natV j), none] H4
          ((List.range n).map fun k => natV (max (Kh420.entry M i k) (Kh420.entry N k j))) := by
        refine el_map (n := n) _ (ea_one (ev_var (i := 2) rfl)) (by omega) (fun _ => rfl) fun k H5 e6 hk => ?_
        exact ev_max2N (ev_entry (hM.mono (e5.trans e6)) okM hi hk (ev_var (i := 0) rfl) (ev_var (i := 4) rfl) (ev_var (i := 7) rfl)) (ev_entry (hN.mono (e5.trans e6)) okN hk hj (ev_var (i := 1) rfl) (ev_var (i := 7) rfl) (ev_var (i := 6) rfl))
      have bound : ∀ k, k < n → max (Kh420.entry M i k) (Kh420.entry N k j) ≤ 3 := fun k hk => by
        obtain ⟨_, _, _, b1⟩ := okM.at hi hk
        obtain ⟨_, _, _, b2⟩ := okN.at hk hj
        omega
      refine s_app (v := natV (g i j)) hl (ev_var (i := 5) rfl) (ev_cbL list fun p H5 hp e6 Q5 q5 => min_rule (by omega) bound (sq_of hp) q5) (by simp; omega) fun H5 e6 => ⟨some (natV j), rfl, Ex.mut (e4.trans e6) hl1, ?_⟩
      rw [range_snoc]
      exact upd_same
    · rintro σ' H4 ⟨v6, rfl, e4, hl⟩
      rw [Int.toNat_natCast] at hl
      obtain ⟨rs, hr1, hr2⟩ := hT.mono e4
      refine s_appU (ys := intsV ((List.range n).map (g i))) hr1 (ev_var (i := 3) rfl) (ev_tupL (ev_var (i := 5) rfl) (sq_of (by unfold intsV; rw [List.map_map]; exact hl))) (by have := hr2.1; simp at this; simp; omega) fun p H5 hp e6 h5 =>
        ⟨some (natV i), some (.ref l1), v6, rfl, Ex.mut ((e2.trans e4).trans e6) hl0, RowsT.snoc (e6 _ _ hr1) (hr2.mapR fun _ _ z => e6 _ _ z) h5⟩
  · rintro σ' H2 ⟨v4, v5, v6, rfl, e2, hT⟩
    rw [Int.toNat_natCast] at hT
    exact s_retP (evp_rows (ev_var (i := 3) rfl) hT) fun v H3 e3 hp => q v H3 (e2.trans e3) hp
theorem pure_stabilized (T : Txt K mg ad) (vs : List V) (H : Hp) (Q : VK) (E : XK) (h : sp_stabilized P w K ad vs H Q E) : t_stabilized P w K ad { nx := fun _ H' => Q .non H', rt := Q } (start N_stabilized vs) H := by
  obtain ⟨_, rfl, a, n, M, rfl, n1, n3, hM, okM, q⟩ := h
  let u : Nat → Nat → Nat → Nat := fun i j k => max (Kh420.entry M i k) (max (Kh420.repeatedLoop (Kh420.entry M k k)) (Kh420.entry M k j))
  let g : Nat → Nat → Nat := fun i j => Kh420.minimumOver n (u i j)
  obtain ⟨rs, hM1, hM2⟩ := id hM
  refine q_asg (v := natV n) (ev_is (ev_lenT (ev_var (i := 0) rfl) (st_of hM1)) (by rw [List.length_map, hM2.1, okM.len])) fun H0 e0 => ?_
  refine q_asgL (el_lst ea_nil (Nat.zero_le _)) fun l0 H1 hl0 e1 h1 => ?_
  have hl0 := fresh_back e0 hl0
  refine q_forR1 (n := (n : Int)) (ea_one (ev_var (i := 1) rfl)) (by omega) (fun i σ' H' => ∃ (v3 v4 v5 v6 : Option V), σ' = [some (.ref a), some (natV n), some (.ref l0), v3, v4, v5, v6, none] ∧ Ex H H' ∧ RowsT H' l0 i fun i => (List.range n).map (g i))
    (fun H2 e2 => ⟨none, none, none, none, rfl, (e0.trans e1).trans e2, [], e2 _ _ h1, .nil⟩) ?_ ?_
  · rintro i σ' H2 hi ⟨v3, v4, v5, v6, rfl, e2, hT⟩
    have hi : i < n := by omega
    refine q_asgL (el_lst ea_nil (Nat.zero_le _)) fun l1 H3 hl1 e3 h3 => ?_
    refine q_forR1 (n := (n : Int)) (ea_one (ev_var (i := 1) rfl)) (by omega) (fun j σ' H' => ∃ (v5 v6 : Option V), σ' = [some (.ref a), some (natV n), some (.ref l0), some (natV i), some (.ref l1), v5, v6, none] ∧ Ex H2 H' ∧ H' l1 = some (.lst ((List.range j).map fun j => natV (g i j))))
      (fun H4 e4 => ⟨v5, v6, rfl, e3.trans e4, e4 _ _ h3⟩) ?_ ?_
    · rintro j σ' H4 hj ⟨v5, v6, rfl, e4, hl⟩
      have hj : j < n := by omega
      have e5 := e2.trans e4
      have bound : ∀ k, k < n → u i j k ≤ 3 := fun k hk => by
        obtain ⟨_, _, _, b1⟩ := okM.at hi hk
        obtain ⟨_, _, _, b2⟩ := okM.at hk hk
        obtain ⟨_, _, _, b3⟩ := okM.at hk hj
        have b4 : Kh420.repeatedLoop (Kh420.entry M k k) ≤ 3 := by
          unfold Kh420.repeatedLoop
          split <;> omega
        show max _ (max _ _) ≤ 3
        omega
      refine q_asgL (xs := (List.range n).map fun k => natV (u i j k)) (el_map (n := n) _ (ea_one (ev_var (i := 1) rfl)) (by omega) (fun _ => rfl) fun k H5 e6 hk => ?_) fun p H5 hp e6 h5 => ?_
      · have hM' := hM.mono (e5.trans e6)
        refine ev_max3N (ev_entry hM' okM hi hk (ev_var (i := 0) rfl) (ev_var (i := 3) rfl) (ev_var (i := 7) rfl)) (ev_callV (ea_one (ev_entry hM' okM hk hk (ev_var (i := 0) rfl) (ev_var (i := 7) rfl) (ev_var (i := 7) rfl))) fun H6 e7 Q6 q6 => ?_) (ev_entry hM' okM hk hj (ev_var (i := 0) rfl) (ev_var (i := 7) rfl) (ev_var (i := 5) rfl))
        exact ⟨_, rfl, _, rfl, q6⟩
      · refine s_app (v := natV (g i j)) (e6 _ _ hl) (ev_var (i := 4) rfl) (fun H6 e7 Q6 q6 => ⟨_, rfl, min_rule (by omega) bound (sq_of (e7 _ _ h5)) (q6 H6 (Ex.refl H6))⟩) (by simp; omega) fun H6 e7 => ⟨some (natV j), some (.ref p), rfl, Ex.mut ((e4.trans e6).trans e7) hl1, ?_⟩
        rw [range_snoc]
        exact upd_same
    · rintro σ' H4 ⟨v5, v6, rfl, e4, hl⟩
      rw [Int.toNat_natCast] at hl
      obtain ⟨rs, hr1, hr2⟩ := hT.mono e4
      refine s_appU (ys := intsV ((List.range n).map (g i))) hr1 (ev_var (i := 2) rfl) (ev_tupL (ev_var (i := 4) rfl) (sq_of (by unfold intsV; rw [List.map_map]; exact hl))) (by have := hr2.1; simp at this; simp; omega) fun p H5 hp e6 h5 =>
        ⟨some (natV i), some (.ref l1), v5, v6, rfl, Ex.mut ((e2.trans e4).trans e6) hl0, RowsT.snoc (e6 _ _ hr1) (hr2.mapR fun _ _ z => e6 _ _ z) h5⟩
  · rintro σ' H2 ⟨v3, v4, v5, v6, rfl, e2, hT⟩
    rw [Int.toNat_natCast] at hT
    exact s_retP (evp_rows (ev_var (i := 2) rfl) hT) fun v H3 e3 hp => q v H3 (e2.trans e3) hp
end
end Cr

/-! Readings: words' matrices, acceptance, expressions. -/
namespace Cr
open PySem PySem.Spec PyProof.Rows L2 Evl Cw
section
variable {P : Program} {w : World} {K : PySem.W.Frag} {mg : Str → Option Value} {base : Heap} {ad : Ad} {σ : L2.St} {H H' : Hp} {ta tb tc te : TE} {a : Addr} {m : Aut} {D : Ends}
/-! ### == of matrices -/
theorem All2.cons_inv {α : Type} {R : Addr → α → Prop} {b : Addr} {as : List Addr} {x : α} {xs : List α} (h : All2 R (b :: as) (x :: xs)) : R b x ∧ All2 R as xs :=
  ⟨h.2 0 b x rfl rfl, Nat.succ.inj h.1, fun i c y hc hy => h.2 (i + 1) c y hc hy⟩
def rowD (r : List Nat) : PyData := .tuple (r.map fun (x : Nat) => PyData.int (x : Int))
def matD (M : Kh420.AbstractMatrix) : PyData := .tuple (M.map rowD)
theorem dp_ints : ∀ r : List Nat, DpAll K H (intsV r) (r.map fun (x : Nat) => PyData.int (x : Int))
  | [] => .nil
  | x :: r => .cons (.int _) (dp_ints r)
theorem dp_rows : ∀ (rs : List Addr) (M : Kh420.AbstractMatrix), All2 (TupI H) rs M → DpAll K H (rs.map V.ref) (M.map rowD)
  | [], [], _ => .nil
  | [], _ :: _, h => by cases h.1
  | _ :: _, [], h => by cases h.1
  | b :: rs, r :: M, h => .cons (.tup (st_of h.cons_inv.1) (dp_ints r)) (dp_rows rs M h.cons_inv.2)
theorem dp_mat {M : Kh420.AbstractMatrix} (h : MatAt H a M) : Dp K H (.ref a) (matD M) := let ⟨rs, h1, h2⟩ := h; .tup (st_of h1) (dp_rows rs M h2)
theorem lay_ints : ∀ r : List Nat, PyData.canLayAll0 (r.map fun (x : Nat) => PyData.int (x : Int)) = true ∧ PyData.depthAll (r.map fun (x : Nat) => PyData.int (x : Int)) = 0
  | [] => ⟨rfl, rfl⟩
  | x :: r => by
    obtain ⟨h1, h2⟩ := lay_ints r
    constructor
    · show (PyData.canLay0 (.int _) && PyData.canLayAll0 _) = true
      rw [h1]; rfl
    · show max (PyData.depth (.int _)) (PyData.depthAll _) = 0
      rw [h2]; rfl
theorem lay_rows : ∀ M : Kh420.AbstractMatrix, PyData.canLayAll0 (M.map rowD) = true ∧ PyData.depthAll (M.map rowD) ≤ 1
  | [] => ⟨rfl, Nat.zero_le _⟩
  | r :: M => by
    obtain ⟨h1, h2⟩ := lay_rows M
    obtain ⟨h3, h4⟩ := lay_ints r
    constructor
    · show (PyData.canLayAll0 (r.map fun (x : Nat) => PyData.int (x : Int)) && PyData.canLayAll0 (M.map rowD)) = true
      rw [h1, h3]; rfl
    · show max (PyData.depthAll (r.map fun (x : Nat) => PyData.int (x : Int)) + 1) (PyData.depthAll (M.map rowD)) ≤ 1
      rw [h4]; omega
theorem mat_shaped (M : Kh420.AbstractMatrix) : SeqAt.shaped (matD M) = true := by
  obtain ⟨h1, h2⟩ := lay_rows M
  show (PyData.canLayAll0 (M.map rowD) && decide (PyData.depthAll (M.map rowD) + 1 ≤ 64)) = true
  rw [h1, Bool.true_and, decide_eq_true_eq]
  omega
theorem eqv_ints : ∀ r s : List Nat, PyData.eqvAll (r.map fun (x : Nat) => PyData.int (x : Int)) (s.map fun (x : Nat) => PyData.int (x : Int)) = (r == s)
  | [], [] => rfl
  | [], _ :: _ => rfl
  | _ :: _, [] => rfl
  | x :: r, y :: s => by
    have ih := eqv_ints r s
    show (((x : Int) == (y : Int)) && PyData.eqvAll _ _) = _
    rw [ih, List.cons_beq_cons]
    congr 1
    rw [Bool.eq_iff_iff]
    simp [Int.ofNat_inj]
theorem eqv_rows : ∀ M N : Kh420.AbstractMatrix, PyData.eqvAll (M.map rowD) (N.map rowD) = (M == N)
  | [], [] => rfl
  | [], _ :: _ => rfl
  | _ :: _, [] => rfl
  | r :: M, s :: N => by
    have ih := eqv_rows M N
    show (PyData.eqvAll (r.map fun (x : Nat) => PyData.int (x : Int)) (s.map fun (x : Nat) => PyData.int (x : Int)) && PyData.eqvAll (M.map rowD) (N.map rowD)) = _
    rw [ih, eqv_ints, List.cons_beq_cons]
theorem mat_eqv (M N : Kh420.AbstractMatrix) : PyData.eqv (matD M) (matD N) = (M == N) := eqv_rows M N
theorem evp_product {b : Addr} {n : Nat} {M N : Kh420.AbstractMatrix} (n1 : 1 ≤ n) (n3 : n ≤ 3) (hM : MatAt H a M) (hN : MatAt H b N) (okM : MOk n M) (okN : MOk n N) (h1 : Ev ta σ H (.ref a)) (h2 : Ev tb σ H (.ref b)) :
    EvP (tCall (sp_product P w K ad) [] E0 (tCons ta (tCons tb tNil))) σ H (RefP fun H' p => MatAt H' p (Kh420.multiply n M N)) := by
  refine evp_call (evpa_ea (ea_two h1 h2)) fun vs H1 e1 ev Q1 q1 => ?_
  subst ev
  exact ⟨_, _, rfl, a, b, n, M, N, rfl, rfl, n1, n3, hM.mono e1, hN.mono e1, okM, okN, q1⟩
theorem pure_is_idempotent (T : Txt K mg ad) (vs : List V) (H : Hp) (Q : VK) (E : XK) (h : sp_is_idempotent P w K ad vs H Q E) : t_is_idempotent P w K ad { nx := fun _ H' => Q .non H', rt := Q } (start N_is_idempotent vs) H := by
  obtain ⟨_, rfl, a, n, M, rfl, n1, n3, hM, okM, q⟩ := h
  refine evp_product (P := P) (w := w) (ad := ad) n1 n3 hM hM okM okM (ev_var (i := 0) rfl) (ev_var (i := 0) rfl) H (Ex.refl H) _ fun v H1 e ⟨p, ev, hp⟩ => ?_
  subst ev
  refine ⟨_, rfl, matD (Kh420.multiply n M M), matD M, dp_mat hp, dp_mat (hM.mono e), mat_shaped _, mat_shaped _, ?_⟩
  rw [mat_eqv]
  exact q H1 e
/-! ### the automaton's methods -/
def autNo (f : Str) : Bool := !(f == ("states" : Str)) && (!(f == ("symbols" : Str)) && (!(f == ("weights" : Str)) && (!(f == ("initial" : Str)) && !(f == ("final" : Str)))))
theorem autNo_is {f : Str} (h : autNo f = true) (m : Aut) (wd : Addr) : (autF m wd).lookup f = none := by
  unfold autNo at h
  simp only [Bool.and_eq_true, Bool.not_eq_true'] at h
  exact aut_no m wd h.1 h.2.1 h.2.2.1 h.2.2.2.1 h.2.2.2.2
theorem aut_meth {f : Str} {sp : Sp} {E : XK} {tt : TA} {PA : List V → Hp → Prop} {R : V → Hp → Prop} (A : AutAt ad H a m) (ho : Ev te σ H (.ref a)) (hf : autNo f = true) (h : EvPA tt σ H PA)
    (hs : ∀ vs H1, Ex H H1 → PA vs H1 → ∀ Q : VK, (∀ v H2, Ex H1 H2 → R v H2 → Q v H2) → sp (.ref a :: vs) H1 Q E) : EvP (tMeth ad.a f sp [] E te tt) σ H R := by
  obtain ⟨dx, wd, A1, A2⟩ := A
  exact evp_meth ho A1 (autNo_is hf m wd) h hs
theorem aut_methV {f : Str} {sp : Sp} {E : XK} {tt : TA} {vs : List V} {z : V} (A : AutAt ad H a m) (ho : Ev te σ H (.ref a)) (hf : autNo f = true) (h : EvA tt σ H vs)
    (hs : ∀ H1, Ex H H1 → ∀ Q : VK, (∀ H2, Ex H1 H2 → Q z H2) → sp (.ref a :: vs) H1 Q E) : Ev (tMeth ad.a f sp [] E te tt) σ H z := by
  obtain ⟨dx, wd, A1, A2⟩ := A
  exact ev_methV ho A1 (autNo_is hf m wd) h hs
theorem evp_rows_of {s : Nat} (A : AutAt ad H a m) (ok : m.Ok) (h1 : Ev ta σ H (.ref a)) (h2 : Ev tb σ H (natV s)) : EvP (tMeth ad.a "rows_of" (sp_Automaton_rows_of P w K ad) [] E0 ta (tCons tb tNil)) σ H (RefP fun H' p => RowsAt H' p (m.T s)) := by
  refine aut_meth A h1 (by decide +kernel) (evpa_ea (ea_one h2)) fun vs H1 e1 ev Q1 q1 => ?_
  subst ev
  exact ⟨_, _, rfl, a, m, s, rfl, rfl, A.mono e1, ok, fun v H3 e3 ⟨p, ep, hp, _⟩ => q1 v H3 e3 ⟨p, ep, hp⟩⟩
theorem pure_symbol_matrix (T : Txt K mg ad) (vs : List V) (H : Hp) (Q : VK) (E : XK) (h : sp_symbol_matrix P w K ad vs H Q E) : t_symbol_matrix P w K ad { nx := fun _ H' => Q .non H', rt := Q } (start N_symbol_matrix vs) H := by
  obtain ⟨_, _, rfl, a, m, s, rfl, rfl, A, ok, q⟩ := h
  have n3 := ok.n3
  refine s_retP (evp_call (P := RefP fun H' p => MatAt H' p (Kh420.abstractOf (m.T s))) (evpa_one (evp_rows_of A ok (ev_var (i := 0) rfl) (ev_var (i := 1) rfl))) fun vs H1 e1 hvs Q1 q1 => ?_) fun v H1 e1 hp => q v H1 e1 hp
  obtain ⟨v, rfl, r, rfl, hr⟩ := hvs
  refine ⟨_, rfl, r, m.T s, rfl, hr, by unfold Aut.T; simp; omega, fun x hx => ?_, q1⟩
  unfold Aut.T at hx
  obtain ⟨i, _, rfl⟩ := List.mem_map.mp hx
  simp; omega
theorem evp_symbol {s : Nat} (A : AutAt ad H a m) (ok : m.Ok) (h1 : Ev ta σ H (.ref a)) (h2 : Ev tb σ H (natV s)) : EvP (tCall (sp_symbol_matrix P w K ad) [] E0 (tCons ta (tCons tb tNil))) σ H (RefP fun H' p => MatAt H' p (Kh420.abstractOf (m.T s))) := by
  refine evp_call (evpa_ea (ea_two h1 h2)) fun vs H1 e1 ev Q1 q1 => ?_
  subst ev
  exact ⟨_, _, rfl, a, m, s, rfl, rfl, A.mono e1, ok, q1⟩
theorem pure_word_matrix (T : Txt K mg ad) (vs : List V) (H : Hp) (Q : VK) (E : XK) (h : sp_word_matrix P w K ad vs H Q E) : t_word_matrix P w K ad { nx := fun _ H' => Q .non H', rt := Q } (start N_word_matrix vs) H := by
  obtain ⟨_, _, rfl, a, l, m, ws, rfl, rfl, A, ok, hl, hw, hz, q⟩ := h
  have n3 := ok.n3
  have first : EvP (tCall (sp_unit_of P w K ad) [] E0 (tCons (tFld K (tVar 0) "states") tNil)) (start N_word_matrix [.ref a, .ref l]) H (RefP fun H' p => MatAt H' p (Kh420.abstractMatrixOfWord m.abs [])) := by
    refine evp_call (evpa_ea (ea_one (ev_states T A (ev_var (i := 0) rfl)))) fun vs H1 e1 ev Q1 q1 => ?_
    subst ev
    exact ⟨_, rfl, m.n, rfl, n3, q1⟩
  refine q_asgP first fun v H1 e1 ⟨p, ev, hp⟩ => ?_
  subst ev
  refine q_forLn (a := l) (xs := intsV ws) (ev_var (i := 1) rfl) (hl.mono e1) (fun i σ' H' => ∃ (c : Addr) (v3 : Option V), σ' = [some (.ref a), some (.ref l), some (.ref c), v3] ∧ Ex H H' ∧ MatAt H' c (Kh420.abstractMatrixOfWord m.abs (ws.take i)))
    (fun H2 e2 => ⟨p, none, rfl, e1.trans e2, hp.mono e2⟩) (fun i σ' H' _ ⟨_, _, _, e2, _⟩ => hl.mono e2) ?_ ?_
  · rintro i x σ' H2 hx ⟨c, v3, rfl, e2, hc⟩
    obtain ⟨s, hs, rfl⟩ := map_get hx
    have hsk := hw s (List.mem_of_getElem? hs)
    refine s_asgP (evp_call (P := RefP fun H' p => MatAt H' p (Kh420.abstractMatrixOfWord m.abs (ws.take (i + 1)))) (evpa_cons (R := fun v us H' => v = .ref c ∧ ∃ r, us = [.ref r] ∧ MatAt H' r (Kh420.abstractOf (m.T s)) ∧ Ex H2 H') (evp_ev (ev_var (v := .ref c) (i := 2) rfl)) fun v H3 e3 ev => fun H4 e4 Q4 q4 => ?_) fun vs H3 e3 hvs Q3 q3 => ?_) fun v H3 e3 ⟨p3, ev, hp3⟩ => ?_
    · refine evpa_one (evp_symbol (P := P) (w := w) (K := K) (A.mono e2) ok (ev_var (i := 0) rfl) (ev_var (v := natV s) (i := 3) rfl)) H4 (e3.trans e4) Q4 fun us H5 e5 ⟨v5, eus, r, ev5, hr⟩ => q4 _ H5 e5 ⟨ev, r, by rw [eus, ev5], hr, (e3.trans e4).trans e5⟩
    · obtain ⟨v, us, rfl, rfl, r, rfl, hr, e4⟩ := hvs
      refine ⟨_, _, rfl, c, r, m.n, Kh420.abstractMatrixOfWord m.abs (ws.take i), Kh420.abstractOf (m.T s), rfl, rfl, ok.n1, n3, hc.mono e4, hr, mok_word m _, mok_T m s, fun v H5 e5 hv => q3 v H5 e5 ?_⟩
      rw [take_snoc hs, word_snoc, T_eq hsk]
      exact hv
    · subst ev
      exact ⟨p3, some (natV s), rfl, e2.trans e3, hp3⟩
  · rintro σ' H2 ⟨c, v3, rfl, e2, hc⟩
    rw [show (intsV ws).length = ws.length from List.length_map .., List.take_length] at hc
    exact s_retP (evp_ev (ev_var (v := .ref c) (i := 2) rfl)) fun v H3 e3 ev => q v H3 (e2.trans e3) ⟨c, ev, hc.mono e3⟩
/-! ### rows behind one another -/
theorem s_ext {l : Addr} {xs ys : List V} (hl : H l = some (.lst xs)) (ha : Ev ta σ H (.ref l)) (h : EvL te σ H ys) (hz : xs.length + ys.length ≤ sizeLine) (k : ∀ H1, Ex H H1 → D.nx σ (upd H1 l (.lst (xs ++ ys)))) :
    tDrop (tBM K "list" rExtend ta (tCons te tNil)) D σ H := ha H (Ex.refl H) _ fun H1 e1 =>
  ⟨Or.inl ⟨rfl, xs, sq_of (e1 l _ hl)⟩, h H1 e1 _ fun p H2 _ e2 h2 => ⟨l, p, xs, ys, rfl, rfl, e2 l _ (e1 l _ hl), h2, hz, k H2 (e1.trans e2)⟩⟩
theorem el_listT {p : Addr} {xs : List V} (ha : Ev ta σ H (.ref p)) (h : SqT K H p xs) : EvL (tCB (rListS K) (tCons ta tNil)) σ H xs := fun H1 e Q q =>
  ha H1 e _ fun H2 e2 => ⟨p, xs, rfl, Or.inr (ex_t (e.trans e2) h), fun l hl => q l _ (fresh_back e2 hl) (e2.trans (Ex.new hl)) upd_same⟩
theorem flat_len {n : Nat} {M : Kh420.AbstractMatrix} (ok : ∀ r ∈ M, r.length = n) : M.flatten.length = M.length * n := by
  induction M with
  | nil => simp
  | cons r M ih =>
    rw [List.flatten_cons, List.length_append, ok r List.mem_cons_self, ih fun x hx => ok x (List.mem_cons_of_mem _ hx), List.length_cons, Nat.succ_mul, Nat.add_comm]
theorem pure_described (T : Txt K mg ad) (vs : List V) (H : Hp) (Q : VK) (E : XK) (h : sp_described P w K ad vs H Q E) : t_described P w K ad { nx := fun _ H' => Q .non H', rt := Q } (start N_described vs) H := by
  obtain ⟨_, rfl, a, n, M, rfl, n3, hM, ok, q⟩ := h
  obtain ⟨rs, h1, h2⟩ := id hM
  have len : Ev (tCB (rLenS K) (tCons (tVar 0) tNil)) (start N_described [.ref a]) H (natV n) := ev_is (ev_lenT (ev_var (i := 0) rfl) (st_of h1)) (by rw [List.length_map, h2.1, ok.len])
  refine q_asgL (xs := [natV (n * n)]) (el_lst (ea_one (ev_is (ev_op len len (rv_I (.inl ⟨by omega, by omega⟩))) (by show V.int ((n : Int) * (n : Int)) = V.int ((n * n : Nat) : Int); congr 1))) (by show 1 ≤ 100000; decide)) fun l0 H1 hl0 e1 h3 => ?_
  refine q_forT (xs := rs.map V.ref) (ev_var (i := 0) rfl) (st_of (e1 _ _ h1)) (fun i σ' H' => ∃ v2 : Option V, σ' = [some (.ref a), some (.ref l0), v2] ∧ Ex H H' ∧ H' l0 = some (.lst (natV (n * n) :: intsV (M.take i).flatten)))
    (fun H2 e2 => ⟨none, rfl, e1.trans e2, e2 _ _ h3⟩) (fun i σ' H' _ ⟨_, _, e2, _⟩ => st_of (e2 _ _ h1)) ?_ ?_
  · rintro i x σ' H2 hx ⟨v2, rfl, e2, hl⟩
    obtain ⟨b, hb, rfl⟩ := map_get hx
    have li := (List.getElem?_eq_some_iff.mp hb).1
    have lM : i < M.length := by rw [← h2.1]; exact li
    have hMi := List.getElem?_eq_getElem lM
    have hrow := h2.2 i b _ hb hMi
    have hlen := (ok.row _ (List.getElem_mem lM)).1
    generalize M[i] = row at hMi hrow hlen
    refine s_ext (ys := intsV row) hl (ev_var (v := .ref l0) (i := 1) rfl) (el_listT (ev_var (v := .ref b) (i := 2) rfl) (st_of (e2 _ _ hrow))) ?_ fun H3 e3 => ⟨some (.ref b), rfl, Ex.mut (e2.trans e3) hl0, ?_⟩
    · have l1 : (M.take i).flatten.length = (M.take i).length * n := flat_len fun r hr => (ok.row r (List.mem_of_mem_take hr)).1
      have l2 : (M.take i).length ≤ 3 := by rw [List.length_take]; have := ok.len; omega
      have l3 : (M.take i).length * n ≤ 3 * 3 := Nat.mul_le_mul l2 n3
      unfold intsV
      rw [List.length_cons, List.length_map, List.length_map, l1, hlen]
      have : sizeLine = 16777216 := by decide
      omega
    · rw [take_snoc hMi, List.flatten_append]
      have e4 : intsV ((M.take i).flatten ++ [row].flatten) = intsV (M.take i).flatten ++ intsV row := by
        unfold intsV
        rw [List.map_append]
        simp
      rw [e4]
      exact upd_same
  · rintro σ' H2 ⟨v2, rfl, e2, hl⟩
    rw [List.length_map, h2.1, List.take_length] at hl
    exact s_retP (evp_ev (ev_var (v := .ref l0) (i := 1) rfl)) fun v H3 e3 ev => q v H3 (e2.trans e3) ⟨l0, ev, hl0, e3 _ _ hl⟩
theorem pure_acceptance (T : Txt K mg ad) (vs : List V) (H : Hp) (Q : VK) (E : XK) (h : sp_acceptance P w K ad vs H Q E) : t_acceptance P w K ad { nx := fun _ H' => Q .non H', rt := Q } (start N_acceptance vs) H := by
  obtain ⟨_, _, rfl, a, b, m, M, rfl, rfl, A, ok, hM, okM, q⟩ := h
  have n3 := ok.n3
  refine q_asg (v := natV 3) ev_cN fun H1 e1 => ?_
  refine q_forR1 (n := (m.n : Int)) (ea_one (ev_states T (A.mono e1) (ev_var (i := 0) rfl))) (by omega) (fun i σ' H' => ∃ (v3 v4 : Option V), σ' = [some (.ref a), some (.ref b), some (natV (accOut m.mI m.mF m.n M 3 (List.range i))), v3, v4] ∧ Ex H H')
    (fun H2 e2 => ⟨none, none, rfl, e1.trans e2⟩) ?_ ?_
  · rintro i σ' H2 hi ⟨v3, v4, rfl, e2⟩
    have hi : i < m.n := by omega
    generalize hx : accOut m.mI m.mF m.n M 3 (List.range i) = x0
    let f : Nat → Nat → Nat := fun least j => if (bit m.mI i && bit m.mF j) = true then min least (Kh420.entry M i j) else least
    refine s_forR1 (n := (m.n : Int)) (ea_one (ev_states T (A.mono e2) (ev_var (i := 0) rfl))) (by omega) (fun j σ' H' => ∃ (v4 : Option V), σ' = [some (.ref a), some (.ref b), some (natV ((List.range j).foldl f x0)), some (natV i), v4] ∧ Ex H H')
      (fun H3 e3 => ⟨v4, rfl, e2.trans e3⟩) ?_ ?_
    · rintro j σ' H3 hj ⟨v4, rfl, e3⟩
      have hj : j < m.n := by omega
      refine s_when (et_and (et_test (ev_bit (ev_initial T (A.mono e3) (ev_var (i := 0) rfl)) (ev_var (v := natV i) (i := 3) rfl))) fun _ => et_test (ev_bit (ev_final T (A.mono e3) (ev_var (i := 0) rfl)) (ev_var (v := natV j) (i := 4) rfl))) (fun hb H4 e4 => ?_) (fun hb H4 e4 => ?_)
      · refine s_asg (v := natV ((List.range (j + 1)).foldl f x0)) ?_ fun H5 e5 => ⟨some (natV j), rfl, (e3.trans e4).trans e5⟩
        rw [range_foldl]
        show Ev _ _ _ (natV (if (bit m.mI i && bit m.mF j) = true then min ((List.range j).foldl f x0) (Kh420.entry M i j) else (List.range j).foldl f x0))
        rw [if_pos hb]
        exact ev_min2N (ev_var (i := 2) rfl) (ev_entry (hM.mono (e3.trans e4)) okM hi hj (ev_var (i := 1) rfl) (ev_var (i := 3) rfl) (ev_var (i := 4) rfl))
      · refine ⟨some (natV j), ?_, e3.trans e4⟩
        rw [range_foldl]
        show _ = [_, _, some (natV (if (bit m.mI i && bit m.mF j) = true then min ((List.range j).foldl f x0) (Kh420.entry M i j) else (List.range j).foldl f x0)), _, _]
        rw [hb, if_neg Bool.false_ne_true]
        rfl
    · rintro σ' H3 ⟨v4, rfl, e3⟩
      rw [Int.toNat_natCast]
      refine ⟨some (natV i), v4, ?_, e3⟩
      have e4 : accOut m.mI m.mF m.n M 3 (List.range (i + 1)) = (List.range m.n).foldl f x0 := by
        unfold accOut at hx ⊢
        rw [range_foldl, hx]
        cases hb : bit m.mI i with
        | true =>
          rw [if_pos rfl]
          unfold accIn
          congr 1
          funext y j
          show _ = if (bit m.mI i && bit m.mF j) = true then _ else _
          rw [hb, Bool.true_and]
        | false =>
          rw [if_neg Bool.false_ne_true]
          exact (accIn_off (n := m.n) (mF := m.mF) (M := M) hb x0 (List.range m.n)).symm
      rw [e4]
  · rintro σ' H2 ⟨v3, v4, rfl, e2⟩
    rw [Int.toNat_natCast, ← acceptance_eq]
    exact s_ret (ev_var (i := 2) rfl) fun H3 e3 => q H3 (e2.trans e3)
end
end Cr

/-! Readings: expressions written behind. -/
namespace Cr
open PySem PySem.Spec PyProof.Rows L2 Evl Cw
section
variable {P : Program} {w : World} {K : PySem.W.Frag} {mg : Str → Option Value} {base : Heap} {ad : Ad} {σ : L2.St} {H H' : Hp} {ta tb tc te : TE} {a : Addr} {m : Aut} {D : Ends}
theorem dstep_none_end {k : Nat} {ws : List Nat} {i x : Nat} (hx : ws[i]? = some x) (h : dstep k ((ws.take i).foldl (dstep k) (some 0)) x = none) : isExpr k ws = false := by
  have e : ws = ws.take i ++ x :: ws.drop (i + 1) := by
    conv => lhs; rw [← List.take_append_drop (i + 1) ws, take_snoc hx]
    rw [List.append_assoc]; rfl
  unfold isExpr
  rw [e, List.foldl_append, List.foldl_cons, h, dstep_none]
  rfl
theorem dstep_take {k : Nat} {ws : List Nat} {i x : Nat} (hx : ws[i]? = some x) : (ws.take (i + 1)).foldl (dstep k) (some 0) = dstep k ((ws.take i).foldl (dstep k) (some 0)) x := by
  rw [take_snoc hx, List.foldl_append]; rfl
theorem pure_is_expression (T : Txt K mg ad) (vs : List V) (H : Hp) (Q : VK) (E : XK) (h : sp_is_expression P w K ad vs H Q E) : t_is_expression P w K ad { nx := fun _ H' => Q .non H', rt := Q } (start N_is_expression vs) H := by
  obtain ⟨_, _, rfl, a, l, m, ws, rfl, rfl, A, ok, hl, q⟩ := h
  have k2 := ok.k2
  refine q_asg (v := natV 0) ev_cN fun H1 e1 => ?_
  refine q_forLn (a := l) (xs := intsV ws) (ev_var (i := 1) rfl) (hl.mono e1) (fun i σ' H' => ∃ (d : Nat) (v3 : Option V), σ' = [some (.ref a), some (.ref l), some (natV d), v3] ∧ Ex H H' ∧ (ws.take i).foldl (dstep m.k) (some 0) = some d)
    (fun H2 e2 => ⟨0, none, rfl, e1.trans e2, rfl⟩) (fun i σ' H' _ ⟨_, _, _, e2, _⟩ => hl.mono e2) ?_ ?_
  · rintro i x σ' H2 hx ⟨d, v3, rfl, e2, hd⟩
    obtain ⟨s, hs, rfl⟩ := map_get hx
    have st := dstep_take (k := m.k) hs
    have en := dstep_none_end (k := m.k) hs
    rw [hd] at st en
    refine s_if (ev_ltN (ev_var (v := natV s) (i := 3) rfl) (ev_symbols T (A.mono e2) (ev_var (i := 0) rfl)) |> et_test) (fun hb H3 e3 => ?_) (fun hb H3 e3 => ?_)
    · have c := of_decide_eq_true hb
      refine s_asg (ev_addN (b := 1) (ev_var (v := natV d) (i := 2) rfl) ev_cN) fun H4 e4 => ⟨d + 1, some (natV s), rfl, (e2.trans e3).trans e4, ?_⟩
      rw [st]
      simp only [dstep]
      rw [if_pos c]
    · have c := of_decide_eq_false hb
      have t8 : EvT (tAnd (tTest (tOp rEq (tVar 3) (tC (.int 8)))) (tTest (tOp rGe (tVar 2) (tC (.int 2))))) [some (.ref a), some (.ref l), some (natV d), some (natV s)] H3 (decide (s = 8) && decide (2 ≤ d)) :=
        et_and (et_test (ev_eqN (ev_var (i := 3) rfl) (ev_cN (n := 8)))) fun _ => et_test (ev_geN (ev_var (i := 2) rfl) (ev_cN (n := 2)))
      refine s_if t8 (fun hb8 H4 e4 => ?_) (fun hb8 H4 e4 => ?_)
      · have c8 : s = 8 ∧ 2 ≤ d := by simpa using hb8
        refine s_asg (v := natV (d - 1)) (ev_is (ev_op (ev_var (v := natV d) (i := 2) rfl) (ev_c (v := .int 1)) rv_I0) (by show V.int ((d : Int) - 1) = V.int ((d - 1 : Nat) : Int); congr 1; omega)) fun H5 e5 => ⟨d - 1, some (natV s), rfl, ((e2.trans e3).trans e4).trans e5, ?_⟩
        rw [st]
        simp only [dstep]
        rw [if_neg c, if_pos c8]
      · have c8 : ¬ (s = 8 ∧ 2 ≤ d) := by
          intro z
          rw [decide_eq_true z.1, decide_eq_true z.2] at hb8
          cases hb8
        have t9 : EvT (tOr (tTest (tOp rNe (tVar 3) (tC (.int 9)))) (tTest (tOp rLt (tVar 2) (tC (.int 1))))) [some (.ref a), some (.ref l), some (natV d), some (natV s)] H4 (!decide (s = 9) || decide (d < 1)) :=
          et_or (et_test (ev_neN (ev_var (i := 3) rfl) (ev_cN (n := 9)))) fun _ => et_test (ev_ltN (ev_var (i := 2) rfl) (ev_cN (n := 1)))
        refine s_if t9 (fun hb9 H5 e5 => ?_) (fun hb9 H5 e5 => ?_)
        · have c9 : ¬ (s = 9 ∧ 1 ≤ d) := by
            intro z
            rw [decide_eq_true z.1, decide_eq_false (show ¬ d < 1 by omega)] at hb9
            cases hb9
          have e0 : isExpr m.k ws = false := en (by
            simp only [dstep]
            rw [if_neg c, if_neg c8, if_neg c9])
          rw [e0] at q
          exact s_ret (v := .bl false) ev_c fun H6 e6 => q H6 ((((e2.trans e3).trans e4).trans e5).trans e6)
        · have c9 : s = 9 ∧ 1 ≤ d := by
            by_cases z : s = 9
            · by_cases y : d < 1
              · rw [decide_eq_true y, Bool.or_true] at hb9; cases hb9
              · exact ⟨z, by omega⟩
            · rw [decide_eq_false z] at hb9; cases hb9
          refine ⟨d, some (natV s), rfl, ((e2.trans e3).trans e4).trans e5, ?_⟩
          rw [st]
          simp only [dstep]
          rw [if_neg c, if_neg c8, if_pos c9]
  · rintro σ' H2 ⟨d, v3, rfl, e2, hd⟩
    rw [show (intsV ws).length = ws.length from List.length_map .., List.take_length] at hd
    have e0 : isExpr m.k ws = decide (d = 1) := by
      unfold isExpr
      rw [hd]
      rw [Bool.eq_iff_iff]
      simp
    rw [e0] at q
    exact s_ret (ev_eqN (b := 1) (ev_var (i := 2) rfl) ev_cN) fun H3 e3 => q H3 (e2.trans e3)
/-! ### the stack -/
theorem All2.snoc_inv {α : Type} {R : Addr → α → Prop} {as : List Addr} {xs : List α} {x : α} (h : All2 R as (xs ++ [x])) : ∃ as' b, as = as' ++ [b] ∧ All2 R as' xs ∧ R b x := by
  have hl : as.length = xs.length + 1 := by rw [h.1]; simp
  have ne : as ≠ [] := fun z => by rw [z] at hl; simp at hl
  obtain ⟨d, b, rfl⟩ : ∃ d b, as = d ++ [b] := ⟨_, _, (List.dropLast_concat_getLast ne).symm⟩
  have hd : d.length = xs.length := by simpa using hl
  refine ⟨d, b, rfl, ⟨hd, fun i c y hb hy => ?_⟩, ?_⟩
  · have l1 := (List.getElem?_eq_some_iff.mp hb).1
    have l2 := (List.getElem?_eq_some_iff.mp hy).1
    exact h.2 i c y (by rw [List.getElem?_append_left l1]; exact hb) (by rw [List.getElem?_append_left l2]; exact hy)
  · refine h.2 xs.length _ x ?_ (by rw [List.getElem?_append_right (Nat.le_refl _), Nat.sub_self]; rfl)
    rw [List.getElem?_append_right (by omega), hd, Nat.sub_self]; rfl
theorem s_appP {l : Addr} {xs : List V} {R : V → Hp → Prop} (hl : H l = some (.lst xs)) (ha : Ev ta σ H (.ref l)) (h : EvP te σ H R) (hz : xs.length < 100000) (k : ∀ v H1, Ex H H1 → R v H1 → D.nx σ (upd H1 l (.lst (xs ++ [v])))) :
    tDrop (tBM K "list" rAppend ta (tCons te tNil)) D σ H := ha H (Ex.refl H) _ fun H1 e1 =>
  ⟨Or.inl ⟨rfl, xs, sq_of (e1 l _ hl)⟩, h H1 e1 _ fun v H2 e2 r => ⟨l, xs, v, rfl, rfl, e2 l _ (e1 l _ hl), sz_lt hz, k v H2 (e1.trans e2) r⟩⟩
theorem s_pop {tz : TS} {l : Addr} {xs : List V} {y : V} {i j : Nat} (hj : σ[j]? = some (some (.ref l))) (hl : H l = some (.lst (xs ++ [y]))) (k : tz D (σ.set i (some y)) (upd H l (.lst xs))) : tSeq (tAsg (tBM0 K "list" rPop (tVar j)) (gName i)) tz D σ H := by
  refine ⟨.ref l, hj, Or.inl ⟨rfl, _, sq_of hl⟩, l, xs ++ [y], y, rfl, rfl, hl, ?_, ?_⟩
  · rw [List.length_append, List.length_singleton, Nat.add_sub_cancel, List.getElem?_append_right (Nat.le_refl _), Nat.sub_self]; rfl
  · rw [List.dropLast_concat]; exact k
theorem MatAt.upd {l b : Addr} {xs ys : List V} {M : Kh420.AbstractMatrix} (hl : H l = some (.lst xs)) (h : MatAt H b M) : MatAt (upd H l (.lst ys)) b M := by
  have k : ∀ c zs, H c = some (.tup zs) → L2.upd H l (.lst ys) c = some (.tup zs) := fun c zs hc => by
    rw [upd_ne (fun z => by rw [z, hl] at hc; cases hc)]
    exact hc
  obtain ⟨rs, h1, h2⟩ := h
  exact ⟨rs, k _ _ h1, h2.mapR fun c r hc => k c _ hc⟩
theorem evp_if {t : TT} {b : Bool} {R : V → Hp → Prop} (h : EvT t σ H b) (h1 : b = true → EvP ta σ H R) (h2 : b = false → EvP tb σ H R) : EvP (tIf t ta tb) σ H R := fun H1 e Q q => h H1 e _ fun H2 e2 => by
  cases b with
  | true =>
    show ta σ H2 Q
    exact h1 rfl H2 (e.trans e2) Q fun v H3 e3 r => q v H3 (e2.trans e3) r
  | false =>
    show tb σ H2 Q
    exact h2 rfl H2 (e.trans e2) Q fun v H3 e3 r => q v H3 (e2.trans e3) r
theorem ev_lenM {M : Kh420.AbstractMatrix} (hM : MatAt H a M) (h : Ev ta σ H (.ref a)) : Ev (tCB (rLenS K) (tCons ta tNil)) σ H (natV M.length) := by
  obtain ⟨rs, h1, h2⟩ := hM
  exact ev_is (ev_lenT h (st_of h1)) (by rw [List.length_map, h2.1])
theorem evp_empty : EvP (tTup tNil) σ H (RefP fun H' p => MatAt H' p []) := evp_weak (evp_elU (eu_tup ea_nil (Nat.zero_le _))) fun v H2 e ⟨p, ev, hp⟩ => ⟨p, ev, [], hp, .nil⟩
theorem mok_matrixOf (m : Aut) : ∀ (e : Kh420.Expression) (M : Kh420.AbstractMatrix), Syms m.k e → Kh420.matrixOf m.abs e = some M → MOk m.n M
  | .symbol s, M, h, e => by
    have e1 : Kh420.abstractOf (Kh419.transitionMatrix m.abs s) = M := Option.some.inj e
    rw [← e1, T_eq h]
    exact mok_T m s
  | .concat x y, M, h, e => by
    unfold Kh420.matrixOf at e
    cases ex : Kh420.matrixOf m.abs x with
    | none => rw [ex] at e; cases e
    | some A =>
      cases ey : Kh420.matrixOf m.abs y with
      | none => rw [ex, ey] at e; cases e
      | some B =>
        rw [ex, ey] at e
        have e1 : Kh420.multiply m.n A B = M := Option.some.inj e
        rw [← e1]
        exact mok_mul _ _
  | .repeat_ x, M, h, e => by
    unfold Kh420.matrixOf at e
    cases ex : Kh420.matrixOf m.abs x with
    | none => rw [ex] at e; cases e
    | some A =>
      rw [ex] at e
      have e1 : (if Kh420.isIdempotent m.n A = true then some (Kh420.stabilize m.n A) else none) = some M := e
      split at e1
      · rw [← Option.some.inj e1]; exact mok_stab _
      · cases e1
def val (m : Aut) (e : Kh420.Expression) : Kh420.AbstractMatrix := (Kh420.matrixOf m.abs e).getD []
theorem val_len {m : Aut} (ok : m.Ok) {e : Kh420.Expression} (h : Syms m.k e) : (decide (0 < (val m e).length) = true ∧ ∃ M, Kh420.matrixOf m.abs e = some M ∧ val m e = M ∧ MOk m.n M) ∨ (decide (0 < (val m e).length) = false ∧ Kh420.matrixOf m.abs e = none) := by
  unfold val
  cases q : Kh420.matrixOf m.abs e with
  | none => exact .inr ⟨rfl, rfl⟩
  | some M =>
    have hM := mok_matrixOf m e M h q
    refine .inl ⟨decide_eq_true ?_, M, rfl, rfl, hM⟩
    have := ok.n1
    have := hM.len
    show 0 < M.length
    omega
theorem evp_idem {n : Nat} {M : Kh420.AbstractMatrix} (n1 : 1 ≤ n) (n3 : n ≤ 3) (hM : MatAt H a M) (ok : MOk n M) (h1 : Ev ta σ H (.ref a)) : Ev (tCall (sp_is_idempotent P w K ad) [] E0 (tCons ta tNil)) σ H (.bl (Kh420.isIdempotent n M)) :=
  ev_callV (ea_one h1) fun H1 e1 Q1 q1 => ⟨_, rfl, a, n, M, rfl, n1, n3, hM.mono e1, ok, q1⟩
theorem evp_stab {n : Nat} {M : Kh420.AbstractMatrix} (n1 : 1 ≤ n) (n3 : n ≤ 3) (hM : MatAt H a M) (ok : MOk n M) (h1 : Ev ta σ H (.ref a)) : EvP (tCall (sp_stabilized P w K ad) [] E0 (tCons ta tNil)) σ H (RefP fun H' p => MatAt H' p (Kh420.stabilize n M)) := by
  refine evp_call (evpa_ea (ea_one h1)) fun vs H1 e1 ev Q1 q1 => ?_
  subst ev
  exact ⟨_, rfl, a, n, M, rfl, n1, n3, hM.mono e1, ok, q1⟩
/-- one step of the stack: it can be made -/
theorem step_of {ws : List Nat} {e : Kh420.Expression} (h : ws.foldl pstep (some []) = some [e]) {i x : Nat} (hx : ws[i]? = some x) {st : List Kh420.Expression} (hst : (ws.take i).foldl pstep (some []) = some st) :
    ∃ st', PStep x st st' ∧ (ws.take (i + 1)).foldl pstep (some []) = some st' := by
  have e1 : ws = ws.take (i + 1) ++ ws.drop (i + 1) := (List.take_append_drop _ _).symm
  rw [e1] at h
  obtain ⟨st', h'⟩ := pstep_part h
  refine ⟨st', pstep_kind ?_, h'⟩
  rw [take_snoc hx, List.foldl_append, hst] at h'
  exact h'
theorem stack_len {ws : List Nat} {i : Nat} {st : List Kh420.Expression} (h : (ws.take i).foldl pstep (some []) = some st) (hz : ws.length ≤ 1000) : st.length ≤ 1000 := by
  have key : ∀ (l : List Nat) (s0 st : List Kh420.Expression), l.foldl pstep (some s0) = some st → st.length ≤ s0.length + l.length := by
    intro l
    induction l with
    | nil => intro s0 st h; cases h; exact Nat.le_refl _
    | cons x l ih =>
      intro s0 st h
      rw [List.foldl_cons] at h
      cases q : pstep (some s0) x with
      | none => rw [q, pstep_none] at h; cases h
      | some s1 =>
        rw [q] at h
        have h1 := ih s1 st h
        have h2 : s1.length ≤ s0.length + 1 := by
          cases pstep_kind q with
          | join => simp only [List.length_cons]; omega
          | again => simp only [List.length_cons]; omega
          | sym _ => simp only [List.length_cons]; omega
        rw [List.length_cons]
        omega
  have := key _ _ _ h
  rw [List.length_take, List.length_nil] at this
  omega
theorem pure_value_of (T : Txt K mg ad) (vs : List V) (H : Hp) (Q : VK) (E : XK) (h : sp_value_of P w K ad vs H Q E) : t_value_of P w K ad { nx := fun _ H' => Q .non H', rt := Q } (start N_value_of vs) H := by
  obtain ⟨_, _, rfl, a, l, m, ws, e, rfl, rfl, A, ok, hl, hz, he, hsy, q⟩ := h
  have n1 := ok.n1
  have n3 := ok.n3
  refine q_asgL (el_lst ea_nil (Nat.zero_le _)) fun l0 H1 hl0 e1 h1 => ?_
  refine q_forLn (a := l) (xs := intsV ws) (ev_var (i := 1) rfl) (hl.mono e1) (fun i σ' H' => ∃ (st : List Kh420.Expression) (as : List Addr) (v3 v4 v5 v6 : Option V), σ' = [some (.ref a), some (.ref l), some (.ref l0), v3, v4, v5, v6] ∧ Ex H H' ∧ H' l0 = some (.lst (as.map V.ref)) ∧
      All2 (fun b x => MatAt H' b (val m x)) as st.reverse ∧ (ws.take i).foldl pstep (some []) = some st ∧ ∀ x ∈ st, Syms m.k x)
    (fun H2 e2 => ⟨[], [], none, none, none, none, rfl, e1.trans e2, e2 _ _ h1, .nil, rfl, fun x hx => nomatch hx⟩) (fun i σ' H' _ ⟨_, _, _, _, _, _, _, e2, _⟩ => hl.mono e2) ?_ ?_
  · rintro i x σ' H2 hx ⟨st, as, v3, v4, v5, v6, rfl, e2, hw, hr, hst, hS⟩
    obtain ⟨s, hs, rfl⟩ := map_get hx
    obtain ⟨st', hk, hst'⟩ := step_of he hs hst
    have hlen := stack_len hst hz
    have hal := hr.1
    rw [List.length_reverse] at hal
    cases hk with
    | @join xl xr s0 =>
      have S1 := hS xr List.mem_cons_self
      have S2 := hS xl (List.mem_cons_of_mem _ List.mem_cons_self)
      rw [List.reverse_cons, List.reverse_cons] at hr
      obtain ⟨as1, br, rfl, hr, hbr⟩ := hr.snoc_inv
      obtain ⟨as0, bl, rfl, hr, hbl⟩ := hr.snoc_inv
      refine s_if (et_test (ev_eqN (b := 8) (ev_var (v := natV 8) (i := 3) rfl) ev_cN)) (fun _ H3 e3 => ?_) (fun hb => absurd hb (by decide))
      have hw3 := e3 _ _ hw
      refine s_pop (i := 4) (xs := (as0 ++ [bl]).map V.ref) (y := .ref br) (j := 2) rfl (by rw [hw3, List.map_append (l₁ := as0 ++ [bl])]; rfl) ?_
      refine s_pop (i := 5) (xs := as0.map V.ref) (y := .ref bl) (j := 2) rfl (by rw [upd_same, List.map_append]; rfl) ?_
      rw [upd_upd]
      have up : ∀ {b M}, MatAt H2 b M → MatAt (upd H3 l0 (.lst (as0.map V.ref))) b M := fun h => (h.mono e3).upd hw3
      have e4 : Ex H (upd H3 l0 (.lst (as0.map V.ref))) := Ex.mut (e2.trans e3) hl0
      have L := ev_lenM (K := K) (σ := [some (.ref a), some (.ref l), some (.ref l0), some (natV 8), some (.ref br), some (.ref bl), v6]) (up hbl) (ev_var (i := 5) rfl)
      have R := ev_lenM (K := K) (σ := [some (.ref a), some (.ref l), some (.ref l0), some (natV 8), some (.ref br), some (.ref bl), v6]) (up hbr) (ev_var (i := 4) rfl)
      have val_c : val m (.concat xl xr) = (match Kh420.matrixOf m.abs xl, Kh420.matrixOf m.abs xr with
        | some A, some B => some (Kh420.multiply m.n A B)
        | _, _ => none).getD [] := rfl
      refine s_appP (R := RefP fun H' p => MatAt H' p (val m (.concat xl xr))) upd_same (ev_var (i := 2) rfl) (evp_if (et_and (et_test (ev_gtN (b := 0) L ev_cN)) fun _ => et_test (ev_gtN (b := 0) R ev_cN)) (fun hb => ?_) fun hb => ?_) (by simp at hal hlen ⊢; omega) fun v H4 e5 ⟨p, ev, hp⟩ => ?_
      · rcases val_len ok S2 with ⟨d1, M, m1, m2, m3⟩ | ⟨d1, m1⟩
        · rcases val_len ok S1 with ⟨d2, N, k1, k2, k3⟩ | ⟨d2, k1⟩
          · rw [val_c, m1, k1]
            rw [m2] at hbl
            rw [k2] at hbr
            exact evp_product n1 n3 (up hbl) (up hbr) m3 k3 (ev_var (i := 5) rfl) (ev_var (i := 4) rfl)
          · rw [d1, d2] at hb; cases hb
        · rw [d1] at hb; cases hb
      · have : val m (.concat xl xr) = [] := by
          rcases val_len ok S2 with ⟨d1, M, m1, m2, m3⟩ | ⟨d1, m1⟩
          · rcases val_len ok S1 with ⟨d2, N, k1, k2, k3⟩ | ⟨d2, k1⟩
            · rw [d1, d2] at hb; cases hb
            · rw [val_c, m1, k1]; rfl
          · rw [val_c, m1]; rfl
        rw [this]
        exact evp_empty
      · subst ev
        refine ⟨.concat xl xr :: s0, as0 ++ [p], some (natV 8), some (.ref br), some (.ref bl), v6, rfl, Ex.mut (e4.trans e5) hl0, by rw [List.map_append]; exact upd_same, ?_, hst', ?_⟩
        · rw [List.reverse_cons]
          have hw4 : H4 l0 = some (.lst (as0.map V.ref)) := e5 _ _ upd_same
          exact All2.snoc (hr.mapR fun b x hb => ((up hb).mono e5).upd hw4) (hp.upd hw4)
        · intro y hy
          rcases List.mem_cons.mp hy with z | z
          · rw [z]; exact ⟨S2, S1⟩
          · exact hS y (List.mem_cons_of_mem _ (List.mem_cons_of_mem _ z))
    | @again xe s0 =>
      have S1 := hS xe List.mem_cons_self
      rw [List.reverse_cons] at hr
      obtain ⟨as0, bl, rfl, hr, hbl⟩ := hr.snoc_inv
      refine s_if (et_test (ev_eqN (b := 8) (ev_var (v := natV 9) (i := 3) rfl) ev_cN)) (fun hb => absurd hb (by decide)) (fun _ H3 e3 => ?_)
      refine s_if (et_test (ev_eqN (b := 9) (ev_var (v := natV 9) (i := 3) rfl) ev_cN)) (fun _ H4 e4 => ?_) (fun hb => absurd hb (by decide))
      have e3 := e3.trans e4
      have hw3 := e3 _ _ hw
      refine s_pop (i := 6) (xs := as0.map V.ref) (y := .ref bl) (j := 2) rfl (by rw [hw3, List.map_append]; rfl) ?_
      have up : ∀ {b M}, MatAt H2 b M → MatAt (upd H4 l0 (.lst (as0.map V.ref))) b M := fun h => (h.mono e3).upd hw3
      have e5 : Ex H (upd H4 l0 (.lst (as0.map V.ref))) := Ex.mut (e2.trans e3) hl0
      have L := ev_lenM (K := K) (σ := [some (.ref a), some (.ref l), some (.ref l0), some (natV 9), v4, v5, some (.ref bl)]) (up hbl) (ev_var (i := 6) rfl)
      have val_r : val m (.repeat_ xe) = (match Kh420.matrixOf m.abs xe with
        | none => none
        | some A => if Kh420.isIdempotent m.n A = true then some (Kh420.stabilize m.n A) else none).getD [] := rfl
      refine s_appP (R := RefP fun H' p => MatAt H' p (val m (.repeat_ xe))) upd_same (ev_var (i := 2) rfl) ?_ (by simp at hal hlen ⊢; omega) fun v H5 e6 ⟨p, ev, hp⟩ => ?_
      · rcases val_len ok S1 with ⟨d1, M, m1, m2, m3⟩ | ⟨d1, m1⟩
        · rw [m2] at hbl
          refine evp_if (et_and (b := Kh420.isIdempotent m.n M) (et_test (ev_gtN (b := 0) L ev_cN)) fun _ => et_B (evp_idem n1 n3 (up hbl) m3 (ev_var (i := 6) rfl))) (fun hb => ?_) fun hb => ?_
          · rw [d1, Bool.true_and] at hb
            rw [val_r, m1]
            show EvP _ _ _ (RefP fun H' p => MatAt H' p ((if Kh420.isIdempotent m.n M = true then some (Kh420.stabilize m.n M) else none).getD []))
            rw [if_pos hb]
            exact evp_stab n1 n3 (up hbl) m3 (ev_var (i := 6) rfl)
          · rw [d1, Bool.true_and] at hb
            rw [val_r, m1]
            show EvP _ _ _ (RefP fun H' p => MatAt H' p ((if Kh420.isIdempotent m.n M = true then some (Kh420.stabilize m.n M) else none).getD []))
            rw [hb, if_neg Bool.false_ne_true]
            exact evp_empty
        · refine evp_if (b := false) (et_is (et_and (b := true) (et_test (ev_gtN (b := 0) L ev_cN)) fun z => by rw [d1] at z; cases z) (by rw [d1]; rfl)) (fun hb => by cases hb) fun hb => ?_
          rw [val_r, m1]
          exact evp_empty
      · subst ev
        refine ⟨.repeat_ xe :: s0, as0 ++ [p], some (natV 9), v4, v5, some (.ref bl), rfl, Ex.mut (e5.trans e6) hl0, by rw [List.map_append]; exact upd_same, ?_, hst', ?_⟩
        · rw [List.reverse_cons]
          have hw4 : H5 l0 = some (.lst (as0.map V.ref)) := e6 _ _ upd_same
          exact All2.snoc (hr.mapR fun b x hb => ((up hb).mono e6).upd hw4) (hp.upd hw4)
        · intro y hy
          rcases List.mem_cons.mp hy with z | z
          · rw [z]; exact S1
          · exact hS y (List.mem_cons_of_mem _ z)
    | @sym s st0 h2 =>
      have hsk := hsy s (List.mem_of_getElem? hs) h2
      refine s_if (et_test (ev_eqN (b := 8) (ev_var (v := natV s) (i := 3) rfl) ev_cN)) (fun hb => absurd (of_decide_eq_true hb) (by omega)) (fun _ H3 e3 => ?_)
      refine s_if (et_test (ev_eqN (b := 9) (ev_var (v := natV s) (i := 3) rfl) ev_cN)) (fun hb => absurd (of_decide_eq_true hb) (by omega)) (fun _ H4 e4 => ?_)
      have e3 := e3.trans e4
      have hw3 := e3 _ _ hw
      refine s_appP (R := RefP fun H' p => MatAt H' p (Kh420.abstractOf (m.T s))) hw3 (ev_var (i := 2) rfl) (evp_symbol (A.mono (e2.trans e3)) ok (ev_var (i := 0) rfl) (ev_var (v := natV s) (i := 3) rfl)) (by simp at hal hlen ⊢; omega) fun v H5 e6 ⟨p, ev, hp⟩ => ?_
      subst ev
      refine ⟨.symbol s :: st, as ++ [p], some (natV s), v4, v5, v6, rfl, Ex.mut ((e2.trans e3).trans e6) hl0, by rw [List.map_append]; exact upd_same, ?_, hst', ?_⟩
      · rw [List.reverse_cons]
        have hw4 := e6 _ _ hw3
        have v1 : val m (.symbol s) = Kh420.abstractOf (m.T s) := by
          show Kh420.abstractOf (Kh419.transitionMatrix m.abs s) = _
          rw [T_eq hsk]
        refine All2.snoc (hr.mapR fun b x hb => ((hb.mono e3).mono e6).upd hw4) ?_
        rw [v1]
        exact hp.upd hw4
      · intro y hy
        rcases List.mem_cons.mp hy with z | z
        · rw [z]; exact hsk
        · exact hS y z
  · rintro σ' H2 ⟨st, as, v3, v4, v5, v6, rfl, e2, hw, hr, hst, hS⟩
    rw [show (intsV ws).length = ws.length from List.length_map .., List.take_length, he] at hst
    cases hst
    obtain ⟨as0, b, rfl, hr, hb⟩ := All2.snoc_inv (xs := []) hr
    have : as0 = [] := List.length_eq_zero_iff.mp hr.1
    subst this
    refine s_retP (evp_ev (ev_op (ev_var (v := .ref l0) (i := 2) rfl) (ev_c (v := .int 0)) (rv_ixL (sq_of hw) (v := .ref b) rfl))) fun v H3 e3 ev => q v H3 (e2.trans e3) ⟨b, ev, hb.mono e3⟩

theorem pure_length_of (T : Txt K mg ad) (vs : List V) (H : Hp) (Q : VK) (E : XK) (h : sp_length_of P w K ad vs H Q E) : t_length_of P w K ad { nx := fun _ H' => Q .non H', rt := Q } (start N_length_of vs) H := by
  obtain ⟨_, _, rfl, l, ws, count, e, rfl, rfl, hl, hz, hc, he, q⟩ := h
  let f : Kh420.Expression → V := fun x => natV (cutLen count x)
  refine q_asgL (el_lst ea_nil (Nat.zero_le _)) fun l0 H1 hl0 e1 h1 => ?_
  refine q_forLn (a := l) (xs := intsV ws) (ev_var (i := 0) rfl) (hl.mono e1) (fun i σ' H' => ∃ (st : List Kh420.Expression) (v3 v4 v5 : Option V), σ' = [some (.ref l), some (natV count), some (.ref l0), v3, v4, v5] ∧ Ex H H' ∧ H' l0 = some (.lst (st.reverse.map f)) ∧
      (ws.take i).foldl pstep (some []) = some st)
    (fun H2 e2 => ⟨[], none, none, none, rfl, e1.trans e2, e2 _ _ h1, rfl⟩) (fun i σ' H' _ ⟨_, _, _, _, _, e2, _⟩ => hl.mono e2) ?_ ?_
  · rintro i x σ' H2 hx ⟨st, v3, v4, v5, rfl, e2, hw, hst⟩
    obtain ⟨s, hs, rfl⟩ := map_get hx
    obtain ⟨st', hk, hst'⟩ := step_of he hs hst
    have hlen := stack_len hst hz
    cases hk with
    | @join xl xr s0 =>
      refine s_if (et_test (ev_eqN (b := 8) (ev_var (v := natV 8) (i := 3) rfl) ev_cN)) (fun _ H3 e3 => ?_) (fun hb => absurd hb (by decide))
      have hw3 := e3 _ _ hw
      rw [List.reverse_cons, List.reverse_cons, List.map_append, List.map_append] at hw3
      refine s_pop (i := 4) (y := f xr) (j := 2) rfl hw3 ?_
      refine s_pop (i := 5) (y := f xl) (j := 2) rfl upd_same ?_
      rw [upd_upd]
      have e4 : Ex H (upd H3 l0 (.lst (s0.reverse.map f))) := Ex.mut (e2.trans e3) hl0
      refine s_app (v := f (.concat xl xr)) upd_same (ev_var (i := 2) rfl) (ev_is (ev_min2N (x := 61) ev_cN (ev_addN (ev_var (v := f xl) (i := 5) rfl) (ev_var (v := f xr) (i := 4) rfl))) (congrArg natV (cutLen_join count xl xr).symm)) (by simp at hlen ⊢; omega) fun H4 e5 => ?_
      refine ⟨.concat xl xr :: s0, some (natV 8), some (f xr), some (f xl), rfl, Ex.mut (e4.trans e5) hl0, by rw [List.reverse_cons, List.map_append]; exact upd_same, hst'⟩
    | @again xe s0 =>
      refine s_if (et_test (ev_eqN (b := 8) (ev_var (v := natV 9) (i := 3) rfl) ev_cN)) (fun hb => absurd hb (by decide)) (fun _ H3 e3 => ?_)
      refine s_if (et_test (ev_eqN (b := 9) (ev_var (v := natV 9) (i := 3) rfl) ev_cN)) (fun _ H4 e4 => ?_) (fun hb => absurd hb (by decide))
      have e3 := e3.trans e4
      have hw3 := e3 _ _ hw
      rw [List.reverse_cons, List.map_append] at hw3
      refine ⟨.ref l0, rfl, Or.inl ⟨rfl, _, sq_of hw3⟩, ?_⟩
      refine ⟨natV count, rfl, .ref l0, rfl, Or.inl ⟨rfl, _, sq_of hw3⟩, l0, s0.reverse.map f ++ [f xe], f xe, rfl, rfl, hw3, ?_, ?_⟩
      · rw [List.length_append, List.length_singleton, Nat.add_sub_cancel, List.getElem?_append_right (Nat.le_refl _), Nat.sub_self]; rfl
      · rw [List.dropLast_concat]
        refine ⟨(count : Int), ((cutLen count xe : Nat) : Int), rfl, rfl, .inl ⟨by omega, by omega⟩, ?_⟩
        refine ⟨61, (count : Int) * ((cutLen count xe : Nat) : Int), rfl, ?_⟩
        refine ⟨l0, s0.reverse.map f, _, rfl, rfl, upd_same, by rw [List.length_map, List.length_reverse]; simp at hlen; exact sz_lt (by omega), ?_⟩
        rw [upd_upd]
        refine ⟨.repeat_ xe :: s0, some (natV 9), v4, v5, rfl, Ex.mut (e2.trans e3) hl0, ?_, hst'⟩
        rw [List.reverse_cons, List.map_append]
        have e5 : V.int (min 61 ((count : Int) * ((cutLen count xe : Nat) : Int))) = f (.repeat_ xe) := by
          show _ = natV (cutLen count (.repeat_ xe))
          rw [cutLen_again]
          show V.int (min 61 ((count : Int) * ((cutLen count xe : Nat) : Int))) = V.int ((min 61 (count * cutLen count xe) : Nat) : Int)
          congr 1
          rw [← Int.natCast_mul]
          omega
        rw [e5]
        exact upd_same
    | @sym s st0 h2 =>
      refine s_if (et_test (ev_eqN (b := 8) (ev_var (v := natV s) (i := 3) rfl) ev_cN)) (fun hb => absurd (of_decide_eq_true hb) (by omega)) (fun _ H3 e3 => ?_)
      refine s_if (et_test (ev_eqN (b := 9) (ev_var (v := natV s) (i := 3) rfl) ev_cN)) (fun hb => absurd (of_decide_eq_true hb) (by omega)) (fun _ H4 e4 => ?_)
      have e3 := e3.trans e4
      refine s_app (v := f (.symbol s)) (e3 _ _ hw) (ev_var (i := 2) rfl) (ev_cN (n := 1)) (by simp at hlen ⊢; omega) fun H5 e5 => ?_
      refine ⟨.symbol s :: st, some (natV s), v4, v5, rfl, Ex.mut ((e2.trans e3).trans e5) hl0, by rw [List.reverse_cons, List.map_append]; exact upd_same, hst'⟩
  · rintro σ' H2 ⟨st, v3, v4, v5, rfl, e2, hw, hst⟩
    rw [show (intsV ws).length = ws.length from List.length_map .., List.take_length, he] at hst
    cases hst
    exact s_ret (ev_op (ev_var (v := .ref l0) (i := 2) rfl) (ev_c (v := .int 0)) (rv_ixL (sq_of hw) (v := f e) rfl)) fun H3 e3 => q H3 (e2.trans e3)
/-! ### unrolling -/
theorem cutV_61 (xs : List V) : cutV xs none (some 61) = xs.take 61 := by
  unfold cutV
  have e : HT.sIx xs.length xs.length (some (61 : Int)) = min 61 xs.length := HT.sIx_nat xs.length xs.length 61
  rw [e]
  show (xs.drop 0).take (min 61 xs.length - 0) = _
  rw [List.drop_zero, Nat.sub_zero]
  by_cases c : xs.length ≤ 61
  · rw [Nat.min_eq_right c, List.take_of_length_le (Nat.le_refl _), List.take_of_length_le c]
  · rw [Nat.min_eq_left (by omega)]
theorem pure_unrolled (T : Txt K mg ad) (vs : List V) (H : Hp) (Q : VK) (E : XK) (h : sp_unrolled P w K ad vs H Q E) : t_unrolled P w K ad { nx := fun _ H' => Q .non H', rt := Q } (start N_unrolled vs) H := by
  obtain ⟨_, _, rfl, l, ws, count, e, rfl, rfl, hl, hz, hc, he, q⟩ := h
  refine q_asgL (el_lst ea_nil (Nat.zero_le _)) fun l0 H1 hl0 e1 h1 => ?_
  refine q_forLn (a := l) (xs := intsV ws) (ev_var (i := 0) rfl) (hl.mono e1) (fun i σ' H' => ∃ (st : List Kh420.Expression) (as : List Addr) (v3 v4 v5 : Option V), σ' = [some (.ref l), some (natV count), some (.ref l0), v3, v4, v5] ∧ Ex H H' ∧ H' l0 = some (.lst (as.map V.ref)) ∧
      All2 (fun b x => H' b = some (.lst (intsV (cut count x))) ∧ b ≠ l0) as st.reverse ∧ (ws.take i).foldl pstep (some []) = some st)
    (fun H2 e2 => ⟨[], [], none, none, none, rfl, e1.trans e2, e2 _ _ h1, .nil, rfl⟩) (fun i σ' H' _ ⟨_, _, _, _, _, _, e2, _⟩ => hl.mono e2) ?_ ?_
  · rintro i x σ' H2 hx ⟨st, as, v3, v4, v5, rfl, e2, hw, hr, hst⟩
    obtain ⟨s, hs, rfl⟩ := map_get hx
    obtain ⟨st', hk, hst'⟩ := step_of he hs hst
    have hlen := stack_len hst hz
    have hal := hr.1
    rw [List.length_reverse] at hal
    cases hk with
    | @join xl xr s0 =>
      rw [List.reverse_cons, List.reverse_cons] at hr
      obtain ⟨as1, br, rfl, hr, hbr⟩ := hr.snoc_inv
      obtain ⟨as0, bl, rfl, hr, hbl⟩ := hr.snoc_inv
      refine s_if (et_test (ev_eqN (b := 8) (ev_var (v := natV 8) (i := 3) rfl) ev_cN)) (fun _ H3 e3 => ?_) (fun hb => absurd hb (by decide))
      have hw3 := e3 _ _ hw
      refine s_pop (i := 4) (xs := (as0 ++ [bl]).map V.ref) (y := .ref br) (j := 2) rfl (by rw [hw3, List.map_append (l₁ := as0 ++ [bl])]; rfl) ?_
      refine s_pop (i := 5) (xs := as0.map V.ref) (y := .ref bl) (j := 2) rfl (by rw [upd_same, List.map_append]; rfl) ?_
      rw [upd_upd]
      have e4 : Ex H (upd H3 l0 (.lst (as0.map V.ref))) := Ex.mut (e2.trans e3) hl0
      have up : ∀ {b : Addr} {ys : List V}, H2 b = some (.lst ys) ∧ b ≠ l0 → upd H3 l0 (.lst (as0.map V.ref)) b = some (.lst ys) := fun h => by rw [upd_ne h.2]; exact e3 _ _ h.1
      have cl := cut_le count xl
      have cr := cut_le count xr
      refine ⟨.ref l0, rfl, Or.inl ⟨rfl, _, sq_of upd_same⟩, ?_⟩
      refine ⟨.ref bl, rfl, .ref br, rfl, bl, br, intsV (cut count xl), intsV (cut count xr), rfl, rfl, up hbl, up hbr, ?_, fun p1 hp1 => ?_⟩
      · unfold intsV; rw [List.length_map, List.length_map]; exact sz_of (by omega)
      · refine ⟨61, rfl, p1, intsV (cut count xl) ++ intsV (cut count xr), rfl, sq_of upd_same, fun p2 hp2 => ?_⟩
        have n1 : l0 ≠ p1 := ne_of_none upd_same hp1
        have n2 : l0 ≠ p2 := ne_of_none ((upd_ne n1).trans upd_same) hp2
        refine ⟨l0, as0.map V.ref, .ref p2, rfl, rfl, by rw [upd_ne n2, upd_ne n1]; exact upd_same, by rw [List.length_map]; simp at hal hlen; exact sz_lt (by omega), ?_⟩
        have e5 : Ex (upd H3 l0 (.lst (as0.map V.ref))) (upd (upd (upd H3 l0 (.lst (as0.map V.ref))) p1 (.lst (intsV (cut count xl) ++ intsV (cut count xr)))) p2 (.lst (cutV (intsV (cut count xl) ++ intsV (cut count xr)) none (some 61)))) := (Ex.new hp1).trans (Ex.new hp2)
        refine ⟨.concat xl xr :: s0, as0 ++ [p2], some (natV 8), some (.ref br), some (.ref bl), rfl, Ex.mut (e4.trans e5) hl0, by rw [List.map_append]; exact upd_same, ?_, hst'⟩
        rw [List.reverse_cons]
        refine All2.snoc (hr.mapR fun b x hb => ⟨by rw [upd_ne hb.2]; exact e5 _ _ (up hb), hb.2⟩) ⟨?_, fun z => n2 z.symm⟩
        rw [upd_ne (fun z => n2 z.symm), upd_same, cutV_61, cut_join]
        unfold intsV
        rw [← List.map_append, List.map_take]
    | @again xe s0 =>
      rw [List.reverse_cons] at hr
      obtain ⟨as0, bl, rfl, hr, hbl⟩ := hr.snoc_inv
      refine s_if (et_test (ev_eqN (b := 8) (ev_var (v := natV 9) (i := 3) rfl) ev_cN)) (fun hb => absurd hb (by decide)) (fun _ H3 e3 => ?_)
      refine s_if (et_test (ev_eqN (b := 9) (ev_var (v := natV 9) (i := 3) rfl) ev_cN)) (fun _ H4 e4 => ?_) (fun hb => absurd hb (by decide))
      have e3 := e3.trans e4
      have hw3 := e3 _ _ hw
      rw [List.map_append] at hw3
      have cl := cut_le count xe
      have up : ∀ {b : Addr} {ys : List V}, H2 b = some (.lst ys) ∧ b ≠ l0 → upd H4 l0 (.lst (as0.map V.ref)) b = some (.lst ys) := fun h => by rw [upd_ne h.2]; exact e3 _ _ h.1
      have e4 : Ex H (upd H4 l0 (.lst (as0.map V.ref))) := Ex.mut (e2.trans e3) hl0
      refine ⟨.ref l0, rfl, Or.inl ⟨rfl, _, sq_of hw3⟩, ?_⟩
      refine ⟨.ref l0, rfl, Or.inl ⟨rfl, _, sq_of hw3⟩, l0, as0.map V.ref ++ [.ref bl], .ref bl, rfl, rfl, hw3, ?_, ?_⟩
      · rw [List.length_append, List.length_singleton, Nat.add_sub_cancel, List.getElem?_append_right (Nat.le_refl _), Nat.sub_self]; rfl
      · rw [List.dropLast_concat]
        refine ⟨natV count, rfl, bl, (count : Int), intsV (cut count xe), rfl, rfl, up hbl, by omega, by omega, ?_, fun p1 hp1 => ?_⟩
        · unfold intsV
          rw [List.length_map, Int.toNat_natCast]
          have : (cut count xe).length * count ≤ 61 * 4 := Nat.mul_le_mul cl hc
          exact sz_of (by omega)
        · rw [Int.toNat_natCast]
          refine ⟨61, rfl, p1, (List.replicate count (intsV (cut count xe))).flatten, rfl, sq_of upd_same, fun p2 hp2 => ?_⟩
          have n1 : l0 ≠ p1 := ne_of_none upd_same hp1
          have n2 : l0 ≠ p2 := ne_of_none ((upd_ne n1).trans upd_same) hp2
          refine ⟨l0, as0.map V.ref, .ref p2, rfl, rfl, by rw [upd_ne n2, upd_ne n1]; exact upd_same, by rw [List.length_map]; simp at hal hlen; exact sz_lt (by omega), ?_⟩
          have e5 := (Ex.new hp1 (o := .lst (List.replicate count (intsV (cut count xe))).flatten)).trans (Ex.new hp2 (o := .lst (cutV (List.replicate count (intsV (cut count xe))).flatten none (some 61))))
          refine ⟨.repeat_ xe :: s0, as0 ++ [p2], some (natV 9), v4, v5, rfl, Ex.mut (e4.trans e5) hl0, by rw [List.map_append]; exact upd_same, ?_, hst'⟩
          rw [List.reverse_cons]
          refine All2.snoc (hr.mapR fun b x hb => ⟨by rw [upd_ne hb.2]; exact e5 _ _ (up hb), hb.2⟩) ⟨?_, fun z => n2 z.symm⟩
          rw [upd_ne (fun z => n2 z.symm), upd_same, cutV_61, cut_again]
          unfold intsV times
          rw [List.map_take, List.map_flatten, List.map_replicate]
    | @sym s st0 h2 =>
      refine s_if (et_test (ev_eqN (b := 8) (ev_var (v := natV s) (i := 3) rfl) ev_cN)) (fun hb => absurd (of_decide_eq_true hb) (by omega)) (fun _ H3 e3 => ?_)
      refine s_if (et_test (ev_eqN (b := 9) (ev_var (v := natV s) (i := 3) rfl) ev_cN)) (fun hb => absurd (of_decide_eq_true hb) (by omega)) (fun _ H4 e4 => ?_)
      have e3 := e3.trans e4
      refine s_appL (ys := [natV s]) (e3 _ _ hw) (ev_var (i := 2) rfl) (el_lst (ea_one (ev_var (v := natV s) (i := 3) rfl)) (by show 1 ≤ 100000; decide)) (by simp at hal hlen ⊢; omega) fun p H5 hp e5 h5 => ?_
      have n1 : l0 ≠ p := ne_of_none (e3 _ _ hw) hp
      refine ⟨.symbol s :: st, as ++ [p], some (natV s), v4, v5, rfl, Ex.mut ((e2.trans e3).trans e5) hl0, by rw [List.map_append]; exact upd_same, ?_, hst'⟩
      rw [List.reverse_cons]
      refine All2.snoc (hr.mapR fun b x hb => ⟨by rw [upd_ne hb.2]; exact (e3.trans e5) _ _ hb.1, hb.2⟩) ⟨?_, fun z => n1 z.symm⟩
      rw [upd_ne (fun z => n1 z.symm), h5]
      rfl
  · rintro σ' H2 ⟨st, as, v3, v4, v5, rfl, e2, hw, hr, hst⟩
    rw [show (intsV ws).length = ws.length from List.length_map .., List.take_length, he] at hst
    cases hst
    obtain ⟨as0, b, rfl, hr, hb⟩ := All2.snoc_inv (xs := []) hr
    have : as0 = [] := List.length_eq_zero_iff.mp hr.1
    subst this
    refine s_retP (evp_ev (ev_op (ev_var (v := .ref l0) (i := 2) rfl) (ev_c (v := .int 0)) (rv_ixL (sq_of hw) (v := .ref b) rfl))) fun v H3 e3 ev => q v H3 (e2.trans e3) ⟨b, ev, e3 _ _ hb.1⟩
end
end Cr

/-! Readings: the monoid. -/
namespace Cr
open PySem PySem.Spec PyProof.Rows L2 Evl Cw
section
variable {P : Program} {w : World} {K : PySem.W.Frag} {mg : Str → Option Value} {base : Heap} {ad : Ad} {σ : L2.St} {H H' : Hp} {ta tb tc te : TE} {a : Addr} {m : Aut} {D : Ends} {A : MA} {L : Kh420.Elements} {B : List Part}
/-! ### keys -/
theorem key_ints : ∀ r : List Nat, KeyAll H (r.map fun (x : Nat) => NestedKey.num (x : Int)) (intsV r)
  | [] => .nil
  | x :: r => .cons (.num _) (key_ints r)
theorem key_rows : ∀ (rs : List Addr) (M : Kh420.AbstractMatrix), All2 (TupI H) rs M → KeyAll H (M.map keyR) (rs.map V.ref)
  | [], [], _ => .nil
  | [], _ :: _, h => by cases h.1
  | _ :: _, [], h => by cases h.1
  | b :: rs, r :: M, h => .cons (.tup h.cons_inv.1 (key_ints r)) (key_rows rs M h.cons_inv.2)
theorem key_mat {M : Kh420.AbstractMatrix} (h : MatAt H a M) : KeyAt H (keyM M) (.ref a) := let ⟨rs, h1, h2⟩ := h; .tup h1 (key_rows rs M h2)
theorem depth_ints : ∀ r : List Nat, NestedKey.depthAll (r.map fun (x : Nat) => NestedKey.num (x : Int)) = 0
  | [] => rfl
  | x :: r => by
    show max (NestedKey.depth (.num _)) (NestedKey.depthAll _) = 0
    rw [depth_ints r]; rfl
theorem depth_rows : ∀ M : Kh420.AbstractMatrix, NestedKey.depthAll (M.map keyR) ≤ 1
  | [] => Nat.zero_le _
  | r :: M => by
    show max (NestedKey.depthAll (r.map fun (x : Nat) => NestedKey.num (x : Int)) + 1) (NestedKey.depthAll (M.map keyR)) ≤ 1
    have := depth_rows M
    rw [depth_ints]
    omega
theorem depth_mat (M : Kh420.AbstractMatrix) : (keyM M).depth ≤ 8 := by
  show NestedKey.depthAll (M.map keyR) + 1 ≤ 8
  have := depth_rows M
  omega
theorem num_inj {x y : Nat} (h : NestedKey.num (x : Int) = NestedKey.num (y : Int)) : x = y := by injection h with h; exact Int.ofNat.inj h
theorem keyR_inj {r s : List Nat} (h : keyR r = keyR s) : r = s := by
  unfold keyR at h
  injection h with h
  exact (List.map_inj_right fun x y z => num_inj z).mp h
theorem keyM_inj {M N : Kh420.AbstractMatrix} (h : keyM M = keyM N) : M = N := by
  unfold keyM at h
  injection h with h
  exact (List.map_inj_right fun x y z => keyR_inj z).mp h
theorem kn_keys {as : List Addr} (h : All2 (fun b (e : Elem) => MatAt H b e.1) as L) : KnKeys H (knM L as) := by
  intro p hp
  unfold knM at hp
  obtain ⟨q, hq, rfl⟩ := List.mem_map.mp hp
  obtain ⟨i, hi⟩ := List.getElem?_of_mem hq
  rw [List.getElem?_zip_eq_some] at hi
  exact ⟨key_mat (h.2 i q.2 q.1 hi.2 hi.1), depth_mat _⟩
theorem zip_fst {α β : Type} : ∀ {l : List α} {as : List β}, as.length = l.length → (l.zip as).map (·.1) = l
  | [], [], _ => rfl
  | [], _ :: _, h => by cases h
  | _ :: _, [], h => by cases h
  | x :: l, b :: as, h => by rw [List.zip_cons_cons, List.map_cons, zip_fst (Nat.succ.inj h)]
theorem zip_snd {α β : Type} : ∀ {l : List α} {as : List β}, as.length = l.length → (l.zip as).map (·.2) = as
  | [], [], _ => rfl
  | [], _ :: _, h => by cases h
  | _ :: _, [], h => by cases h
  | x :: l, b :: as, h => by rw [List.zip_cons_cons, List.map_cons, zip_snd (Nat.succ.inj h)]
theorem kn_has {as : List Addr} (hl : as.length = L.length) (M : Kh420.AbstractMatrix) : knHas (knM L as) (keyM M) = Kh420.isKnown L M := by
  unfold knHas knM Kh420.isKnown
  rw [List.any_map]
  conv => rhs; rw [← zip_fst hl]
  rw [List.any_map]
  congr 1
  funext p
  show decide (keyM p.1.1 = keyM M) = (p.1.1 == M)
  rw [Bool.eq_iff_iff]
  simp only [decide_eq_true_eq, beq_iff_eq]
  exact ⟨keyM_inj, fun h => by rw [h]⟩
theorem kn_snoc {as : List Addr} (hl : as.length = L.length) (e : Elem) (b : Addr) : knM (L ++ [e]) (as ++ [b]) = knM L as ++ [(keyM e.1, b)] := by
  unfold knM
  rw [List.zip_append hl.symm, List.map_append]
  rfl
/-! ### the object -/
theorem mon_matrices (A : MA) : (monF A).lookup ("matrices" : Str) = some (.ref A.lm) := lk_here
theorem mon_built (A : MA) : (monF A).lookup ("built" : Str) = some (.ref A.lb) := (lk_past (by decide +kernel)).trans lk_here
theorem mon_known (A : MA) : (monF A).lookup ("known" : Str) = some (.ref A.kd) := (lk_past (by decide +kernel)).trans ((lk_past (by decide +kernel)).trans lk_here)
theorem mon_no {f : Str} (A : MA) (h1 : (f == ("matrices" : Str)) = false) (h2 : (f == ("built" : Str)) = false) (h3 : (f == ("known" : Str)) = false) : (monF A).lookup f = none := (lk_past h1).trans ((lk_past h2).trans ((lk_past h3).trans rfl))
theorem MonAt.mono (e : Ex H H') (h : MonAt P w ad H A L B) : MonAt P w ad H' A L B :=
  let ⟨h1, ne, as, bs, h2, h3, h4, h5, h6⟩ := h
  ⟨e _ _ h1, ne, as, bs, e _ _ h2, e _ _ h3, e _ _ h4, h5.mapR fun _ _ q => q.mono e, h6.mapR fun _ _ q => e _ _ q⟩
theorem FrM.refl : FrM A H H := fun _ _ h _ _ _ => h
theorem FrM.trans {H1 : Hp} (h : FrM A H H1) (k : FrM A H1 H') : FrM A H H' := fun b o e n1 n2 n3 => k b o (h b o e n1 n2 n3) n1 n2 n3
theorem FrM.ex (e : Ex H H') : FrM A H H' := fun b o h _ _ _ => e b o h
theorem MatAt.keep {M : Kh420.AbstractMatrix} (k : ∀ b xs, H b = some (.tup xs) → H' b = some (.tup xs)) (h : MatAt H a M) : MatAt H' a M := let ⟨rs, h1, h2⟩ := h; ⟨rs, k _ _ h1, h2.mapR fun b r q => k _ _ q⟩
/-- a tuple stands apart from the monoid's own -/
theorem FrM.tup (h : FrM A H H') (hM : MonAt P w ad H A L B) {b : Addr} {xs : List V} (e : H b = some (.tup xs)) : H' b = some (.tup xs) := by
  obtain ⟨_, _, as, bs, h2, h3, h4, _⟩ := hM
  exact h b _ e (ne_of e h2 (fun z => nomatch z)) (ne_of e h3 (fun z => nomatch z)) (ne_of e h4 (fun z => nomatch z))
theorem s_appZ {l : Addr} {xs : List V} {v : V} (hl : H l = some (.lst xs)) (ha : Ev ta σ H (.ref l)) (h : Ev te σ H v) (hz : xs.length < sizeLine) (k : ∀ H1, Ex H H1 → D.nx σ (upd H1 l (.lst (xs ++ [v])))) :
    tDrop (tBM K "list" rAppend ta (tCons te tNil)) D σ H := ha H (Ex.refl H) _ fun H1 e1 =>
  ⟨Or.inl ⟨rfl, xs, sq_of (e1 l _ hl)⟩, h H1 e1 _ fun H2 e2 => ⟨l, xs, v, rfl, rfl, e2 l _ (e1 l _ hl), hz, k H2 (e1.trans e2)⟩⟩
theorem pure_Monoid_put (T : Txt K mg ad) (vs : List V) (H : Hp) (Q : VK) (E : XK) (h : sp_Monoid_put P w K ad vs H Q E) : t_Monoid_put P w K ad { nx := fun _ H' => Q .non H', rt := Q } (start N_Monoid_put vs) H := by
  obtain ⟨_, _, _, rfl, A, L, B, a, b, e, pt, rfl, rfl, rfl, hM, ha, hb, hz, hBL, hnd, q⟩ := h
  obtain ⟨hx, ne, as, bs, h2, h3, h4, h5, h6⟩ := id hM
  have n1 : A.x ≠ A.lm := ne_of hx h2 (fun z => nomatch z)
  have n2 : A.x ≠ A.lb := ne_of hx h3 (fun z => nomatch z)
  have n3 : A.x ≠ A.kd := ne_of hx h4 (fun z => nomatch z)
  have n4 : A.lm ≠ A.kd := ne_of h2 h4 (fun z => nomatch z)
  have n5 : A.lb ≠ A.kd := ne_of h3 h4 (fun z => nomatch z)
  have hal : as.length < 1000 := by rw [h5.1]; exact hz
  have hbl : bs.length < 1000 := by rw [h6.1, hBL]; exact hz
  refine ⟨.ref a, rfl, .ref A.x, rfl, A.x, ad.m, A.dx, monF A, .ref A.kd, rfl, hx, T.cl_Monoid, T.nM3, mon_known A, A.kd, a, knM L as, keyM e.1, rfl, rfl, h4, kn_keys h5, key_mat ha, depth_mat _, _, rfl, ?_⟩
  cases hk : Kh420.isKnown L e.1 with
  | true =>
    rw [kn_has h5.1, hk]
    have e0 : putE (L, B) e pt = (L, B) := if_pos hk
    rw [e0] at q
    exact q H hM FrM.refl
  | false =>
    have e0 : putE (L, B) e pt = (L ++ [e], B ++ [pt]) := if_neg (by show ¬ Kh420.isKnown L e.1 = true; rw [hk]; exact Bool.false_ne_true)
    rw [e0] at q
    rw [kn_has h5.1, hk]
    have hkl : (knM L as).length < 1000 := by
      unfold knM
      rw [List.length_map, List.length_zip]
      omega
    refine ⟨.ref A.x, rfl, A.x, ad.m, A.dx, monF A, .ref A.kd, rfl, hx, T.cl_Monoid, T.nM3, mon_known A, .ref a, rfl, A.kd, a, knM L as, keyM e.1, rfl, rfl, rfl, h4, kn_keys h5, key_mat ha, depth_mat _, by rw [kn_has h5.1, hk], sz_lt (by omega), ?_⟩
    rw [← kn_snoc h5.1]
    generalize hH1 : upd H A.kd (KnO P w A.kd (knM (L ++ [e]) (as ++ [a]))) = H1
    have k1 : ∀ c o, H c = some o → c ≠ A.kd → H1 c = some o := fun c o hc hn => by rw [← hH1, upd_ne hn]; exact hc
    have hx1 := k1 _ _ hx n3
    refine s_app (v := .ref a) (k1 _ _ h2 n4) (ev_fld (ev_var (v := .ref A.x) (i := 0) rfl) hx1 T.cl_Monoid T.nM1 (mon_matrices A)) (ev_var (v := .ref a) (i := 1) rfl) (by rw [List.length_map]; omega) fun H2 e2 => ?_
    generalize hH3 : upd H2 A.lm (.lst (as.map V.ref ++ [.ref a])) = H3
    have k3 : ∀ c o, H1 c = some o → c ≠ A.lm → H3 c = some o := fun c o hc hn => by rw [← hH3, upd_ne hn]; exact e2 _ _ hc
    refine s_app (v := .ref b) (k3 _ _ (k1 _ _ h3 n5) (fun z => ne z.symm)) (ev_fld (ev_var (v := .ref A.x) (i := 0) rfl) (k3 _ _ hx1 n1) T.cl_Monoid T.nM2 (mon_built A)) (ev_var (v := .ref b) (i := 2) rfl) (by rw [List.length_map]; omega) fun H4 e4 => ?_
    generalize hH5 : upd H4 A.lb (.lst (bs.map V.ref ++ [.ref b])) = H5
    have k5 : ∀ c o, H3 c = some o → c ≠ A.lb → H5 c = some o := fun c o hc hn => by rw [← hH5, upd_ne hn]; exact e4 _ _ hc
    have fr : FrM A H H5 := fun c o hc m1 m2 m3 => k5 _ _ (k3 _ _ (k1 _ _ hc m3) m1) m2
    have kt : ∀ c xs, H c = some (.tup xs) → H5 c = some (.tup xs) := fun c xs hc => fr.tup hM hc
    refine q H5 ⟨fr _ _ hx n1 n2 n3, ne, as ++ [a], bs ++ [b], ?_, ?_, ?_, All2.snoc (h5.mapR fun c x hc => hc.keep kt) (ha.keep kt), All2.snoc (h6.mapR fun c x hc => kt _ _ hc) (kt _ _ hb)⟩ fr
    · rw [List.map_append]
      refine k5 _ _ ?_ ne
      rw [← hH3]; exact upd_same
    · rw [List.map_append, ← hH5]; exact upd_same
    · refine k5 _ _ (k3 _ _ ?_ (fun z => n4 z.symm)) (fun z => n5 z.symm)
      rw [← hH1]; exact upd_same
/-- self.put(M, (..)) -/
theorem s_put {tt : TA} {e : Elem} {pt : Part} (hM : MonAt P w ad H A L B) (h0 : σ[0]? = some (some (.ref A.x))) (h1 : EvP ta σ H (RefP fun H' p => MatAt H' p e.1)) (h2 : EvA tt σ H (partV pt)) (hz : L.length < 1000) (hBL : B.length = L.length) (hnd : (L.map (·.1)).Nodup)
    (k : ∀ H', MonAt P w ad H' A (putE (L, B) e pt).1 (putE (L, B) e pt).2 → FrM A H H' → D.nx σ H') : tDrop (tMeth ad.m "put" (sp_Monoid_put P w K ad) [] E0 (tVar 0) (tCons ta (tCons (tTup tt) tNil))) D σ H := by
  refine ⟨.ref A.x, h0, A.x, A.dx, monF A, rfl, hM.1, mon_no A (by decide +kernel) (by decide +kernel) (by decide +kernel), ?_⟩
  refine h1 H (Ex.refl H) _ fun v H1 e1 ⟨p, ev, hp⟩ => ?_
  subst ev
  refine eu_tup h2 (by show 3 ≤ 100000; decide) H1 e1 _ fun b H2 _ e2 hb => ?_
  exact ⟨_, _, _, rfl, A, L, B, p, b, e, pt, rfl, rfl, rfl, hM.mono (e1.trans e2), hp.mono e2, hb, hz, hBL, hnd, fun H' hM' fr => k H' hM' ((FrM.ex (e1.trans e2)).trans fr)⟩
/-- self.matrices[i] -/
theorem ev_elem {i : Nat} {x : Elem} (T : Txt K mg ad) (hM : MonAt P w ad H A L B) (hi : L[i]? = some x) (h1 : Ev ta σ H (.ref A.x)) (h2 : Ev tb σ H (natV i)) : ∃ b, MatAt H b x.1 ∧ Ev (tOp (rIxL K) (tFld K ta "matrices") tb) σ H (.ref b) := by
  obtain ⟨hx, _, as, bs, hl, _, _, h5, _⟩ := hM
  obtain ⟨b, hb, hm⟩ := h5.at hi
  exact ⟨b, hm, ev_op (ev_fld h1 hx T.cl_Monoid T.nM1 (mon_matrices A)) h2 (rv_ixL (sq_of hl) (atI_nat (by rw [List.getElem?_map, hb]; rfl)))⟩
theorem ev_mlen (T : Txt K mg ad) (hM : MonAt P w ad H A L B) (h1 : Ev ta σ H (.ref A.x)) : Ev (tCB (rLenS K) (tCons (tFld K ta "matrices") tNil)) σ H (natV L.length) := by
  obtain ⟨hx, _, as, bs, hl, _, _, h5, _⟩ := hM
  exact ev_is (ev_len (ev_fld h1 hx T.cl_Monoid T.nM1 (mon_matrices A)) (sq_of hl)) (by rw [List.length_map, h5.1]; rfl)
theorem pure_Monoid_is_too_large (T : Txt K mg ad) (vs : List V) (H : Hp) (Q : VK) (E : XK) (h : sp_Monoid_is_too_large P w K ad vs H Q E) : t_Monoid_is_too_large P w K ad { nx := fun _ H' => Q .non H', rt := Q } (start N_Monoid_is_too_large vs) H := by
  obtain ⟨_, rfl, A, L, B, rfl, hM, q⟩ := h
  exact s_ret (ev_gtN (b := 100) (ev_mlen T hM (ev_var (i := 0) rfl)) ev_cN) fun H1 e => q H1 e
theorem pure_Monoid_acceptances (T : Txt K mg ad) (vs : List V) (H : Hp) (Q : VK) (E : XK) (h : sp_Monoid_acceptances P w K ad vs H Q E) : t_Monoid_acceptances P w K ad { nx := fun _ H' => Q .non H', rt := Q } (start N_Monoid_acceptances vs) H := by
  obtain ⟨_, _, rfl, A, a, m, L, B, rfl, rfl, hM, hA, ok, hz, he, q⟩ := h
  obtain ⟨hx, _, as, bs, hl, _, _, h5, _⟩ := id hM
  have hzl : (L.zip as).length = L.length := by rw [List.length_zip, h5.1]; omega
  have hl' : H A.lm = some (.lst ((L.zip as).map fun p => V.ref p.2)) := by
    rw [hl]
    congr 2
    conv => lhs; rw [← zip_snd h5.1]
    rw [List.map_map]; rfl
  have mid := el_mapL (K := K) (σ := start N_Monoid_acceptances [.ref A.x, .ref a]) (H := H) (te := tCall (sp_acceptance P w K ad) [] E0 (tCons (tVar 1) (tCons (tVar 2) tNil))) (j := 2) (vs := [2]) (c := fun (p : Elem × Addr) => V.ref p.2) (f := fun p => natV (Kh420.acceptance m.abs p.1.1)) (xs := L.zip as)
    (ev_fld (ev_var (v := .ref A.x) (i := 0) rfl) hx T.cl_Monoid T.nM1 (mon_matrices A)) (sq_of hl') (by omega) (fun _ => rfl) (fun i p H1 e1 hp => by
      rw [List.getElem?_zip_eq_some] at hp
      have hm := h5.2 i p.2 p.1 hp.2 hp.1
      refine ev_callV (ea_two (ev_var (v := .ref a) (i := 1) rfl) (ev_var (v := .ref p.2) (i := 2) rfl)) fun H2 e2 Q2 q2 => ?_
      exact ⟨_, _, rfl, a, p.2, m, p.1.1, rfl, rfl, hA.mono (e1.trans e2), ok, hm.mono (e1.trans e2), he.ok p.1 (List.mem_of_getElem? hp.1), q2⟩)
  refine s_retL mid fun p H1 hp e1 h1 => q _ H1 e1 ⟨p, rfl, h1.trans ?_⟩
  congr 2
  unfold accs intsV
  rw [List.map_map]
  conv => rhs; rw [← zip_fst h5.1]
  rw [List.map_map]
  rfl

/-! ### one element's products -/
theorem take_get {α : Type} {l : List α} {i n : Nat} {x : α} (h : (l.take n)[i]? = some x) : l[i]? = some x ∧ i < n := by
  have hi := (List.getElem?_eq_some_iff.mp h).1
  rw [List.length_take] at hi
  rw [List.getElem?_take_of_lt (by omega)] at h
  exact ⟨h, by omega⟩
/-- what holds while products are put in: of the elements that stood at the beginning, j are through -/
structure GoAt (P : Program) (w : World) (ad : Ad) (A : MA) (m : Aut) (L0 L : Kh420.Elements) (H0 H : Hp) : Prop where
  mon : ∃ B, MonAt P w ad H A L B ∧ Built L B
  inv : EInv m.n m.k L
  grow : GrowE L0 L
  fr : FrM A H0 H
theorem GoAt.ex {L0 : Kh420.Elements} {H0 : Hp} (h : GoAt P w ad A m L0 L H0 H) (e : Ex H H') : GoAt P w ad A m L0 L H0 H' :=
  let ⟨⟨B, h1, h2⟩, h3, h4, h5⟩ := h
  ⟨⟨B, h1.mono e, h2⟩, h3, h4, h5.trans (FrM.ex e)⟩
/-- one more put -/
theorem s_goput {tt : TA} {L0 : Kh420.Elements} {H0 : Hp} {e : Elem} {pt : Part} (G : GoAt P w ad A m L0 L H0 H) (h0 : σ[0]? = some (some (.ref A.x))) (h1 : EvP ta σ H (RefP fun H' p => MatAt H' p e.1)) (h2 : EvA tt σ H (partV pt)) (hz : L.length < 1000)
    (ok : MOk m.n e.1) (hp : ∀ i, L0.length ≤ i → PartOk L0 i e.2 pt) (k : ∀ H', GoAt P w ad A m L0 (Kh420.addElement L e) H0 H' → D.nx σ H') : tDrop (tMeth ad.m "put" (sp_Monoid_put P w K ad) [] E0 (tVar 0) (tCons ta (tCons (tTup tt) tNil))) D σ H := by
  obtain ⟨⟨B, hM, hB⟩, hI, hG, hF⟩ := G
  refine s_put hM h0 h1 h2 hz hB.len hI.nd fun H' hM' fr => k H' ⟨⟨(putE (L, B) e pt).2, ?_, ?_⟩, einv_add hI ok, hG.trans (add_grow L e), hF.trans fr⟩
  · have e1 : (putE (L, B) e pt).1 = Kh420.addElement L e := putE_fst (L, B) e pt
    rw [e1] at hM'
    exact hM'
  · have hb := built_put (s := (L, B)) hB (e := e) (b := pt) ((hp L.length hG.len).grow hG)
    have e1 : (putE (L, B) e pt).1 = Kh420.addElement L e := putE_fst (L, B) e pt
    rw [e1] at hb
    exact hb

theorem pure_Monoid_go_on (T : Txt K mg ad) (vs : List V) (H : Hp) (Q : VK) (E : XK) (h : sp_Monoid_go_on P w K ad vs H Q E) : t_Monoid_go_on P w K ad { nx := fun _ H' => Q .non H', rt := Q } (start N_Monoid_go_on vs) H := by
  obtain ⟨_, _, rfl, A, m, L, B, i, cur, rfl, rfl, ok, hM, hi, hz, hI, hB, q⟩ := h
  have n1 := ok.n1
  have n3 := ok.n3
  have li := (List.getElem?_eq_some_iff.mp hi).1
  have okc := hI.ok cur (List.mem_of_getElem? hi)
  obtain ⟨b, hb, ev1⟩ := ev_elem (σ := start N_Monoid_go_on [.ref A.x, natV i]) T hM hi (ev_var (i := 0) rfl) (ev_var (v := natV i) (i := 1) rfl)
  refine q_asg ev1 fun H1 e1 => ?_
  have G0 : GoAt P w ad A m L L H H1 := ⟨⟨B, hM.mono e1, hB⟩, hI, .refl L, FrM.ex e1⟩
  -- one's own matrix stands
  have mb : ∀ {H' : Hp}, FrM A H H' → MatAt H' b cur.1 := fun fr => hb.keep fun c xs hc => fr.tup hM hc
  have part1 : ∀ j, L.length ≤ j → PartOk L j (.repeat_ cur.2) (9, (i : Int), -1) := fun j hj => .inr (.inl ⟨i, cur, by omega, hi, rfl, rfl⟩)
  have lenT : ∀ j, (L.take j).length ≤ 100 := fun j => by rw [List.length_take]; omega
  -- the two loops, from the elements with the stabilization
  have tail : ∀ (L1 : Kh420.Elements) (H2 : Hp), GoAt P w ad A m L L1 H H2 → L1.length ≤ 101 →
      ((L.take (i + 1)).foldl (fun found e => Kh420.addElement found (Kh420.multiply m.n e.1 cur.1, .concat e.2 cur.2)) ((L.take (i + 1)).foldl (fun found e => Kh420.addElement found (Kh420.multiply m.n cur.1 e.1, .concat cur.2 e.2)) L1)) = growE m.abs i cur L →
      (tSeq (tFor (iRng1 (tCons (tOp rPlus (tVar 1) (tC (.int 1))) tNil)) (gName 3) (tDrop (tMeth ad.m "put" (sp_Monoid_put P w K ad) [] E0 (tVar 0) (tCons (tCall (sp_product P w K ad) [] E0 (tCons (tVar 2) (tCons (tOp (rIxL K) (tFld K (tVar 0) "matrices") (tVar 3)) tNil))) (tCons (tTup (tCons (tC (.int 8)) (tCons (tVar 1) (tCons (tVar 3) tNil)))) tNil)))))
        (tFor (iRng1 (tCons (tOp rPlus (tVar 1) (tC (.int 1))) tNil)) (gName 3) (tDrop (tMeth ad.m "put" (sp_Monoid_put P w K ad) [] E0 (tVar 0) (tCons (tCall (sp_product P w K ad) [] E0 (tCons (tOp (rIxL K) (tFld K (tVar 0) "matrices") (tVar 3)) (tCons (tVar 2) tNil))) (tCons (tTup (tCons (tC (.int 8)) (tCons (tVar 3) (tCons (tVar 1) tNil)))) tNil))))))
        { nx := fun _ H' => Q .non H', rt := Q } [some (.ref A.x), some (natV i), some (.ref b), none] H2 := by
    intro L1 H2 G1 hl1 hg
    have rng : ∀ {H' : Hp} {v3 : Option V}, EvA (tCons (tOp rPlus (tVar 1) (tC (.int 1))) tNil) [some (.ref A.x), some (natV i), some (.ref b), v3] H' [.int ((i + 1 : Nat) : Int)] := fun {H' v3} => ea_one (ev_addN (b := 1) (ev_var (i := 1) rfl) ev_cN)
    refine q_forR1 (n := ((i + 1 : Nat) : Int)) rng (by omega) (fun j σ' H' => ∃ (v3 : Option V), σ' = [some (.ref A.x), some (natV i), some (.ref b), v3] ∧ GoAt P w ad A m L ((L.take j).foldl (fun found e => Kh420.addElement found (Kh420.multiply m.n cur.1 e.1, .concat cur.2 e.2)) L1) H H')
      (fun H3 e3 => ⟨none, rfl, G1.ex e3⟩) ?_ ?_
    · rintro j σ' H3 hj ⟨v3, rfl, G⟩
      have hj : j < i + 1 := by omega
      have hjl : j < L.length := by omega
      have hLj : L[j]? = some L[j] := List.getElem?_eq_getElem hjl
      generalize L[j] = x at hLj
      have hx2 := G.grow.at hLj
      obtain ⟨B3, hM3, hB3⟩ := G.mon
      obtain ⟨c, hc, ev3⟩ := ev_elem (σ := [some (.ref A.x), some (natV i), some (.ref b), some (natV j)]) T hM3 hx2 (ev_var (i := 0) rfl) (ev_var (v := natV j) (i := 3) rfl)
      have hlen := foldE_len (fun e : Elem => (Kh420.multiply m.n cur.1 e.1, Kh420.Expression.concat cur.2 e.2)) (L.take j) L1
      have := lenT j
      have prod : EvP (tCall (sp_product P w K ad) [] E0 (tCons (tVar 2) (tCons (tOp (rIxL K) (tFld K (tVar 0) "matrices") (tVar 3)) tNil))) [some (.ref A.x), some (natV i), some (.ref b), some (natV j)] H3 (RefP fun H' p => MatAt H' p (Kh420.multiply m.n cur.1 x.1)) :=
        evp_product n1 n3 (mb G.fr) hc okc (hI.ok x (List.mem_of_getElem? hLj)) (ev_var (i := 2) rfl) ev3
      refine s_goput (e := (Kh420.multiply m.n cur.1 x.1, .concat cur.2 x.2)) (pt := (8, (i : Int), (j : Int))) G rfl prod (ea_three ev_c (ev_var (v := natV i) (i := 1) rfl) (ev_var (v := natV j) (i := 3) rfl)) (Nat.lt_of_le_of_lt hlen (by omega)) (mok_mul _ _)
        (fun k hk => .inr (.inr ⟨i, j, cur, x, by omega, by omega, hi, hLj, rfl, rfl⟩)) fun H4 G4 => ⟨some (natV j), rfl, ?_⟩
      rw [take_snoc hLj, List.foldl_append]
      exact G4
    · rintro σ' H3 ⟨v3, rfl, G⟩
      rw [Int.toNat_natCast] at G
      generalize hR : (L.take (i + 1)).foldl (fun found e => Kh420.addElement found (Kh420.multiply m.n cur.1 e.1, .concat cur.2 e.2)) L1 = R at G hg
      have hRl : R.length ≤ 300 := by
        have hlen := foldE_len (fun e : Elem => (Kh420.multiply m.n cur.1 e.1, Kh420.Expression.concat cur.2 e.2)) (L.take (i + 1)) L1
        have := lenT (i + 1)
        rw [← hR]
        exact Nat.le_trans hlen (by omega)
      refine s_forR1 (n := ((i + 1 : Nat) : Int)) rng (by omega) (fun j σ' H' => ∃ (v3 : Option V), σ' = [some (.ref A.x), some (natV i), some (.ref b), v3] ∧ GoAt P w ad A m L ((L.take j).foldl (fun found e => Kh420.addElement found (Kh420.multiply m.n e.1 cur.1, .concat e.2 cur.2)) R) H H')
        (fun H3 e3 => ⟨v3, rfl, G.ex e3⟩) ?_ ?_
      · rintro j σ' H3 hj ⟨v3, rfl, G⟩
        have hj : j < i + 1 := by omega
        have hjl : j < L.length := by omega
        have hLj : L[j]? = some L[j] := List.getElem?_eq_getElem hjl
        generalize L[j] = x at hLj
        have hx2 := G.grow.at hLj
        obtain ⟨B3, hM3, hB3⟩ := G.mon
        obtain ⟨c, hc, ev3⟩ := ev_elem (σ := [some (.ref A.x), some (natV i), some (.ref b), some (natV j)]) T hM3 hx2 (ev_var (i := 0) rfl) (ev_var (v := natV j) (i := 3) rfl)
        have hlen := foldE_len (fun e : Elem => (Kh420.multiply m.n e.1 cur.1, Kh420.Expression.concat e.2 cur.2)) (L.take j) R
        have := lenT j
        have prod : EvP (tCall (sp_product P w K ad) [] E0 (tCons (tOp (rIxL K) (tFld K (tVar 0) "matrices") (tVar 3)) (tCons (tVar 2) tNil))) [some (.ref A.x), some (natV i), some (.ref b), some (natV j)] H3 (RefP fun H' p => MatAt H' p (Kh420.multiply m.n x.1 cur.1)) :=
          evp_product n1 n3 hc (mb G.fr) (hI.ok x (List.mem_of_getElem? hLj)) okc ev3 (ev_var (i := 2) rfl)
        refine s_goput (e := (Kh420.multiply m.n x.1 cur.1, .concat x.2 cur.2)) (pt := (8, (j : Int), (i : Int))) G rfl prod (ea_three ev_c (ev_var (v := natV j) (i := 3) rfl) (ev_var (v := natV i) (i := 1) rfl)) (Nat.lt_of_le_of_lt hlen (by omega)) (mok_mul _ _)
          (fun k hk => .inr (.inr ⟨j, i, x, cur, by omega, by omega, hLj, hi, rfl, rfl⟩)) fun H4 G4 => ⟨some (natV j), rfl, ?_⟩
        rw [take_snoc hLj, List.foldl_append]
        exact G4
      · rintro σ' H3 ⟨v3, rfl, G⟩
        rw [Int.toNat_natCast, hg] at G
        obtain ⟨⟨B3, hM3, hB3⟩, hI3, _, fr3⟩ := G
        exact q H3 B3 hM3 hI3 hB3 fr3
  refine q_if (b := Kh420.isIdempotent m.n cur.1) (et_B (evp_idem n1 n3 (mb G0.fr) okc (ev_var (v := .ref b) (i := 2) rfl))) (fun hid H2 e2 => ?_) (fun hid H2 e2 => ?_)
  · refine s_goput (e := (Kh420.stabilize m.n cur.1, .repeat_ cur.2)) (pt := (9, (i : Int), -1)) (G0.ex e2) rfl (evp_stab n1 n3 (mb (G0.ex e2).fr) okc (ev_var (v := .ref b) (i := 2) rfl)) (ea_three ev_c (ev_var (v := natV i) (i := 1) rfl) (ev_negN (ev_cN (n := 1)))) (by omega) (mok_stab _) part1 fun H3 G3 => tail _ H3 G3 ?_ ?_
    · have := add_len L (Kh420.stabilize m.n cur.1, .repeat_ cur.2)
      omega
    · unfold growE
      have e3 : Kh420.isIdempotent m.abs.stateCount cur.1 = true := hid
      rw [if_pos e3]
      rfl
  · refine tail _ H2 (G0.ex e2) (by omega) ?_
    unfold growE
    have e3 : ¬ Kh420.isIdempotent m.abs.stateCount cur.1 = true := by
      show ¬ Kh420.isIdempotent m.n cur.1 = true
      rw [hid]; exact Bool.false_ne_true
    rw [if_neg e3]
    rfl

/-! ### all elements -/
theorem mon_new (lm lb kd : Addr) : putF "known" (.ref kd) (putF "built" (.ref lb) (putF "matrices" (.ref lm) [])) = ([("matrices", V.ref lm), ("built", .ref lb), ("known", .ref kd)] : List (Str × V)) := by
  have a1 : putF "built" (.ref lb) ([("matrices", V.ref lm)] : List (Str × V)) = ([("matrices", V.ref lm), ("built", .ref lb)] : List (Str × V)) := (put_past (by decide +kernel)).trans rfl
  rw [put_nil, a1]
  exact (put_past (by decide +kernel)).trans (congrArg _ ((put_past (by decide +kernel)).trans rfl))
theorem grow_len {a : Au} {i : Nat} {cur : Elem} {L : Kh420.Elements} (h : L.length ≤ 100) : (growE a i cur L).length ≤ 400 := by
  unfold growE
  have h1 := foldE_len (fun e : Elem => (Kh420.multiply a.stateCount e.1 cur.1, Kh420.Expression.concat e.2 cur.2)) (L.take (i + 1))
  have h2 := foldE_len (fun e : Elem => (Kh420.multiply a.stateCount cur.1 e.1, Kh420.Expression.concat cur.2 e.2)) (L.take (i + 1))
  have h3 : (L.take (i + 1)).length ≤ 100 := by rw [List.length_take]; omega
  refine Nat.le_trans (h1 _) ?_
  have h4 := h2 (if Kh420.isIdempotent a.stateCount cur.1 = true then Kh420.addElement L (Kh420.stabilize a.stateCount cur.1, .repeat_ cur.2) else L)
  have h5 : (if Kh420.isIdempotent a.stateCount cur.1 = true then Kh420.addElement L (Kh420.stabilize a.stateCount cur.1, .repeat_ cur.2) else L).length ≤ 101 := by
    split
    · have := add_len L (Kh420.stabilize a.stateCount cur.1, .repeat_ cur.2); omega
    · omega
  refine Nat.le_trans (Nat.add_le_add_right h4 _) ?_
  omega
theorem pure_Monoid_init (T : Txt K mg ad) (vs : List V) (H : Hp) (Q : VK) (E : XK) (h : sp_Monoid_init P w K ad vs H Q E) : t_Monoid_init P w K ad { nx := fun _ H' => Q .non H', rt := Q } (start N_Monoid_init vs) H := by
  obtain ⟨_, _, rfl, p, dx, a, m, rfl, rfl, hp, hdx, hA, ok, npa, q⟩ := h
  have k2 := ok.k2
  -- the three fields
  refine ⟨Nat.zero_le _, fun lm hlm => ?_⟩
  have ne1 : p ≠ lm := ne_of_none hp hlm
  refine ⟨_, rfl, p, ad.m, dx, _, rfl, (upd_ne ne1).trans hp, T.cl_Monoid, T.nM1, (by show 0 < 1000; decide), ?_⟩
  refine ⟨Nat.zero_le _, fun lb hlb => ?_⟩
  have ne2 : p ≠ lb := ne_of_none upd_same hlb
  have nml : lm ≠ lb := by
    refine ne_of_none (H := upd (upd H lm (.lst [])) p (.ins ad.m dx (putF "matrices" (.ref lm) []))) (o := .lst []) ?_ hlb
    rw [upd_ne (fun z => ne1 z.symm)]; exact upd_same
  refine ⟨_, rfl, p, ad.m, dx, _, rfl, (upd_ne ne2).trans upd_same, T.cl_Monoid, T.nM2, (by show 1 < 1000; decide), ?_⟩
  intro kd hkd
  have ne3 : p ≠ kd := ne_of_none upd_same hkd
  refine ⟨_, rfl, p, ad.m, dx, _, rfl, (upd_ne ne3).trans upd_same, T.cl_Monoid, T.nM3, (by show 2 < 1000; decide), ?_⟩
  have s1 := fun z : lm = p => ne1 z.symm
  have s2 := fun z : lb = p => ne2 z.symm
  have s3 := fun z : kd = p => ne3 z.symm
  have nkm : lm ≠ kd := by
    refine ne_of_none (o := .lst []) ?_ hkd
    rw [upd_ne s1, upd_ne nml, upd_ne s1]; exact upd_same
  have nkb : lb ≠ kd := by
    refine ne_of_none (o := .lst []) ?_ hkd
    rw [upd_ne s2]; exact upd_same
  have f1 : H lm = none := hlm
  have f2 : H lb = none := by
    rw [upd_ne s2, upd_ne (fun z => nml z.symm)] at hlb; exact hlb
  have f3 : H kd = none := by
    rw [upd_ne s3, upd_ne (fun z => nkb z.symm), upd_ne s3, upd_ne (fun z => nkm z.symm)] at hkd; exact hkd
  let A : MA := ⟨p, dx, lm, lb, kd⟩
  generalize hH1 : upd (upd (upd (upd (upd (upd H lm (.lst [])) p (.ins ad.m dx (putF "matrices" (.ref lm) []))) lb (.lst [])) p (.ins ad.m dx (putF "built" (.ref lb) (putF "matrices" (.ref lm) [])))) kd (KnO P w kd [])) p (.ins ad.m dx (putF "known" (.ref kd) (putF "built" (.ref lb) (putF "matrices" (.ref lm) [])))) = H1
  have fr1 : ∀ b o, H b = some o → b ≠ p → H1 b = some o := fun b o hb hn => by
    have b1 : b ≠ lm := ne_of_none hb f1
    have b2 : b ≠ lb := ne_of_none hb f2
    have b3 : b ≠ kd := ne_of_none hb f3
    rw [← hH1, upd_ne hn, upd_ne b3, upd_ne hn, upd_ne b2, upd_ne hn, upd_ne b1]; exact hb
  have M1 : MonAt P w ad H1 A [] [] := by
    refine ⟨?_, nml, [], [], ?_, ?_, ?_, .nil, .nil⟩
    · show H1 p = _
      rw [← hH1, upd_same, mon_new]; rfl
    · show H1 lm = _
      rw [← hH1, upd_ne s1, upd_ne nkm, upd_ne s1, upd_ne nml, upd_ne s1]; exact upd_same
    · show H1 lb = _
      rw [← hH1, upd_ne s2, upd_ne nkb, upd_ne s2]; exact upd_same
    · show H1 kd = _
      rw [← hH1, upd_ne s3]; exact upd_same
  clear hH1
  -- what goes with the loops: all that stood stands
  have frame : ∀ {H2 H3 : Hp}, (∀ b o, H b = some o → b ≠ p → H2 b = some o) → FrM A H2 H3 → ∀ b o, H b = some o → b ≠ p → H3 b = some o := fun f g b o hb hn => g b o (f b o hb hn) (ne_of_none hb f1) (ne_of_none hb f2) (ne_of_none hb f3)
  have autom : ∀ {H2 : Hp}, (∀ b o, H b = some o → b ≠ p → H2 b = some o) → AutAt ad H2 a m := fun f => by
    obtain ⟨dx2, wd, A1, A2⟩ := hA
    refine ⟨dx2, wd, f _ _ A1 (fun z => npa z.symm), f _ _ A2 (fun z => ?_)⟩
    rw [z, hp] at A2; cases A2
  let gen : Nat → Kh420.Elements := fun s => (List.range s).foldl (fun elements s => Kh420.addElement elements (Kh420.abstractOf (m.T s), .symbol s)) []
  refine q_forR1 (n := (m.k : Int)) (ea_one (ev_symbols T (autom fr1) (ev_var (v := .ref a) (i := 1) rfl))) (by omega) (fun s σ' H' => ∃ (v2 : Option V), σ' = [some (.ref p), some (.ref a), v2, none] ∧ GoAt P w ad A m [] (gen s) H1 H')
    (fun H2 e2 => ⟨none, rfl, ⟨[], M1.mono e2, built_nil⟩, ⟨List.nodup_nil, fun e he => nomatch he⟩, .refl _, FrM.ex e2⟩) ?_ ?_
  · rintro s σ' H2 hs ⟨v2, rfl, G⟩
    have hs : s < m.k := by omega
    have hgl : (gen s).length ≤ 3 := by
      have := foldE_len (fun e : Elem => e) ((List.range s).map fun s => (Kh420.abstractOf (m.T s), Kh420.Expression.symbol s)) []
      rw [List.foldl_map, List.length_map, List.length_range] at this
      exact Nat.le_trans this (by simp; omega)
    refine s_goput (e := (Kh420.abstractOf (m.T s), .symbol s)) (pt := ((s : Int), -1, -1)) G rfl (evp_symbol (autom (frame fr1 G.fr)) ok (ev_var (v := .ref a) (i := 1) rfl) (ev_var (v := natV s) (i := 2) rfl)) (ea_three (ev_var (v := natV s) (i := 2) rfl) (ev_negN (ev_cN (n := 1))) (ev_negN (ev_cN (n := 1)))) (by omega) (mok_T m s)
      (fun j _ => .inl ⟨s, rfl, rfl⟩) fun H3 G3 => ⟨some (natV s), rfl, ?_⟩
    show GoAt P w ad A m [] ((List.range (s + 1)).foldl _ []) H1 H3
    rw [range_foldl]
    exact G3
  · rintro σ' H2 ⟨v2, rfl, G⟩
    rw [Int.toNat_natCast] at G
    have hgen : gen m.k = Kh420.generators m.abs := by
      unfold Kh420.generators
      show (List.range m.k).foldl _ [] = (List.range m.k).foldl _ []
      have key : ∀ (l : List Nat), (∀ s ∈ l, s < m.k) → ∀ L : Kh420.Elements, l.foldl (fun elements s => Kh420.addElement elements (Kh420.abstractOf (m.T s), .symbol s)) L = l.foldl (fun elements s => Kh420.addElement elements (Kh420.abstractOf (Kh419.transitionMatrix m.abs s), .symbol s)) L := by
        intro l
        induction l with
        | nil => intro _ L; rfl
        | cons s l ih =>
          intro hs L
          rw [List.foldl_cons, List.foldl_cons, T_eq (hs s List.mem_cons_self)]
          exact ih (fun t ht => hs t (List.mem_cons_of_mem _ ht)) _
      exact key _ (fun s hs => List.mem_range.mp hs) []
    have hgl : (gen m.k).length ≤ 3 := by
      have := foldE_len (fun e : Elem => e) ((List.range m.k).map fun s => (Kh420.abstractOf (m.T s), Kh420.Expression.symbol s)) []
      rw [List.foldl_map, List.length_map, List.length_range] at this
      exact Nat.le_trans this (by simp; omega)
    obtain ⟨⟨B2, hM2, hB2⟩, hI2, _, fr2⟩ := G
    rw [hgen] at hM2 hB2 hI2 hgl
    refine q_asg (v := natV 0) ev_cN fun H3 e3 => ?_
    refine s_while (fun n σ' H' => ∃ (i : Nat) (L : Kh420.Elements) (B : List Part), σ' = [some (.ref p), some (.ref a), v2, some (natV i)] ∧ MonAt P w ad H' A L B ∧ EInv m.n m.k L ∧ Built L B ∧ MAt m.abs L i ∧ L.length ≤ 400 ∧ (∀ b o, H b = some o → b ≠ p → H' b = some o) ∧ n = 102 - i) 102
      ⟨0, Kh420.generators m.abs, B2, rfl, hM2.mono e3, hI2, hB2, mat_start m.abs, by omega, fun b o hb hn => e3 _ _ (frame fr1 fr2 b o hb hn), rfl⟩ ?_
    rintro n σ' H4 ⟨i, L, B, rfl, hM, hI, hB, hAt, hl, hF, rfl⟩
    refine ⟨_, et_and (et_test (ev_ltN (ev_var (v := natV i) (i := 3) rfl) (ev_mlen T hM (ev_var (i := 0) rfl)))) (fun _ => et_test (ev_leN (b := 100) (ev_mlen T hM (ev_var (i := 0) rfl)) ev_cN)), fun hb H5 e5 => ?_, fun hb H5 e5 => ?_⟩
    · rw [Bool.and_eq_true, decide_eq_true_eq, decide_eq_true_eq] at hb
      have hcur : L[i]? = some L[i] := List.getElem?_eq_getElem hb.1
      generalize L[i] = cur at hcur
      refine ⟨fun σ2 H2 => ∃ L' B', σ2 = [some (.ref p), some (.ref a), v2, some (natV (i + 1))] ∧ MonAt P w ad H2 A L' B' ∧ EInv m.n m.k L' ∧ Built L' B' ∧ MAt m.abs L' (i + 1) ∧ L'.length ≤ 400 ∧ (∀ b o, H b = some o → b ≠ p → H2 b = some o), fun σ2 H2 ⟨L', B', h1, h2, h3, h4, h5, h6, h7⟩ => ⟨102 - (i + 1), by omega, i + 1, L', B', h1, h2, h3, h4, h5, h6, h7, rfl⟩, ?_⟩
      refine ⟨.ref p, rfl, p, dx, monF A, rfl, (hM.mono e5).1, mon_no A (by decide +kernel) (by decide +kernel) (by decide +kernel), ?_⟩
      refine ⟨natV i, rfl, ?_⟩
      refine ⟨_, _, rfl, A, m, L, B, i, cur, rfl, rfl, ok, hM.mono e5, hcur, hb.2, hI, hB, fun H6 B' hM6 hI6 hB6 fr6 => ?_⟩
      refine s_asg (ev_addN (b := 1) (ev_var (v := natV i) (i := 3) rfl) ev_cN) fun H7 e7 => ⟨growE m.abs i cur L, B', rfl, hM6.mono e7, hI6, hB6, mat_next hAt hcur (by omega), grow_len hb.2, fun b o hbo hn => e7 _ _ (frame (fun b o hbo hn => e5 _ _ (hF b o hbo hn)) fr6 b o hbo hn)⟩
    · have hne : ¬ (i < L.length ∧ L.length ≤ 100) := fun z => by
        rw [decide_eq_true z.1, decide_eq_true z.2] at hb; cases hb
      have e9 := mat_end hAt hne
      rw [e9] at hM hI hB hl
      exact q H5 A B rfl (hM.mono e5) hI hB hl fun b o hbo hn => e5 _ _ (hF b o hbo hn)

/-! ### the expression of an element -/
def workV (w : Work) : List V := [natV w.1, .bl w.2]
theorem pure_Monoid_postfix (T : Txt K mg ad) (vs : List V) (H : Hp) (Q : VK) (E : XK) (h : sp_Monoid_postfix P w K ad vs H Q E) : t_Monoid_postfix P w K ad { nx := fun _ H' => Q .non H', rt := Q } (start N_Monoid_postfix vs) H := by
  obtain ⟨_, _, rfl, A, L, B, i, e, rfl, rfl, hM, hB, hi, hz, q⟩ := h
  have li := (List.getElem?_eq_some_iff.mp hi).1
  have szl : sizeLine = 16777216 := by decide
  refine q_asgL (el_lst ea_nil (Nat.zero_le _)) fun lf H1 hlf e1 h1 => ?_
  -- waiting = [(place, False)]
  refine q_asgP (P := fun v H' => ∃ lw b, v = .ref lw ∧ H' lw = some (.lst [.ref b]) ∧ H' b = some (.tup (workV (i, false))) ∧ H1 lw = none) (fun H2 e2 Q2 q2 => ?_) fun v H2 e2 ⟨lw, b0, ev, hlw, hb0, hfresh⟩ => ?_
  · have pair := eu_tup (σ := [some (.ref A.x), some (natV i), some (.ref lf), none, none, none, none, none, none]) (H := H1) (ea_two (ev_var (v := natV i) (i := 1) rfl) (ev_c (v := .bl false))) (by show 2 ≤ 100000; decide)
    refine (show tTup (tCons (tVar 1) (tCons (tC (.bl false)) tNil)) [some (.ref A.x), some (natV i), some (.ref lf), none, none, none, none, none, none] H2 (fun x H3 => [x].length ≤ sizeLine ∧ ∀ p, H3 p = none → Q2 (.ref p) (upd H3 p (.lst [x]))) from ?_)
    refine pair H2 e2 _ fun b H3 hb e3 hbt => ?_
    refine ⟨by show 1 ≤ sizeLine; decide, fun lw hlw => q2 _ _ (e3.trans (Ex.new hlw)) ⟨lw, b, rfl, upd_same, ?_, fresh_back (e2.trans e3) hlw⟩⟩
    rw [upd_ne (ne_of_none hbt hlw)]; exact hbt
  subst ev
  have nfw : lf ≠ lw := ne_of_none h1 hfresh
  have hlw0 : H lw = none := fresh_back e1 hfresh
  let I : Nat → L2.St → Hp → Prop := fun n σ' H' => ∃ (ws : List Work) (ts : List Addr) (out : List Nat) (v4 v5 v6 v7 v8 : Option V), σ' = [some (.ref A.x), some (natV i), some (.ref lf), some (.ref lw), v4, v5, v6, v7, v8] ∧ Ex H H' ∧ H' lf = some (.lst (intsV out)) ∧ H' lw = some (.lst (ts.map V.ref)) ∧
    All2 (fun b w => H' b = some (.tup (workV w))) ts ws ∧ (∀ w ∈ ws, w.1 < L.length) ∧ out ++ rest L ws = Kh420.toPostfix e.2 ∧ n = load L ws
  refine q_while I (load L [(i, false)]) ⟨[(i, false)], [b0], [], none, none, none, none, none, rfl, e1.trans e2, e2 _ _ h1, hlw, ⟨rfl, fun j c x hc hx => ?_⟩, fun x hx => by rw [List.mem_singleton.mp hx]; exact li, by rw [rest_one hi]; rfl, rfl⟩ ?_
  · cases j with
    | zero => cases hc; cases hx; exact hb0
    | succ j => simp at hc
  rintro n σ' H3 ⟨ws, ts, out, v4, v5, v6, v7, v8, rfl, e3, hf, hw, hr, hin, hout, rfl⟩
  have lts := hr.1
  have bound : out.length + (rest L ws).length ≤ 10000000 := by rw [← List.length_append, hout]; exact hz
  have wl := rest_len hin
  refine ⟨_, et_test (ev_gtN (b := 0) (ev_is (ev_len (ev_var (v := .ref lw) (i := 3) rfl) (sq_of hw)) (by rw [List.length_map, lts]; rfl : V.int _ = natV ws.length)) ev_cN), fun hb H4 e4 => ?_, fun hb H4 e4 => ?_⟩
  · -- one item is taken
    have hpos : 0 < ws.length := of_decide_eq_true hb
    have ne : ws ≠ [] := fun z => by rw [z] at hpos; cases hpos
    obtain ⟨ws0, ⟨here, mk⟩, rfl⟩ : ∃ a b, ws = a ++ [b] := ⟨_, _, (List.dropLast_concat_getLast ne).symm⟩
    obtain ⟨ts0, bt, rfl, hr, hbt⟩ := hr.snoc_inv
    have hin0 : ∀ w ∈ ws0, w.1 < L.length := fun w hw => hin w (List.mem_append_left _ hw)
    have hhere : here < L.length := hin (here, mk) (by simp)
    obtain ⟨kind, first, second, hpart, hmark, hlay⟩ := work_mark hB (ws := ws0) (m := mk) hhere
    have bound2 : 1 ≤ (rest L (ws0 ++ [(here, mk)])).length := Nat.le_trans (by simp) wl
    have hl0 : ts0.length = ws0.length := hr.1
    have w0 := rest_len hin0
    have wl' : ws0.length + 1 ≤ (rest L (ws0 ++ [(here, mk)])).length := by simpa using wl
    have wl2 : ws0.length + 1 ≤ 10000000 := by omega
    have hw4 := e4 _ _ hw
    have hf4 := e4 _ _ hf
    have hbt4 := e4 _ _ hbt
    refine ⟨fun σ2 H2 => ∃ n', n' < load L (ws0 ++ [(here, mk)]) ∧ I n' σ2 H2, fun σ2 H2 h => h, ?_⟩
    -- here, is_mark = waiting.pop()
    refine ⟨.ref lw, rfl, Or.inl ⟨rfl, _, sq_of hw4⟩, lw, (ts0 ++ [bt]).map V.ref, .ref bt, rfl, rfl, hw4, ?_, ?_⟩
    · rw [List.map_append, List.length_append]
      show (ts0.map V.ref ++ [V.ref bt])[(ts0.map V.ref).length + 1 - 1]? = _
      rw [Nat.add_sub_cancel, List.getElem?_append_right (Nat.le_refl _), Nat.sub_self]; rfl
    have hdl : ((ts0 ++ [bt]).map V.ref).dropLast = ts0.map V.ref := by rw [List.map_append]; exact List.dropLast_concat
    rw [hdl]
    generalize hH5 : upd H4 lw (.lst (ts0.map V.ref)) = H5
    have k5 : ∀ c o, H4 c = some o → c ≠ lw → H5 c = some o := fun c o hc hn => by rw [← hH5, upd_ne hn]; exact hc
    have k5t : ∀ c xs, H4 c = some (.tup xs) → H5 c = some (.tup xs) := fun c xs hc => k5 _ _ hc (fun z => by rw [z, hw4] at hc; cases hc)
    have e5 : Ex H H5 := by rw [← hH5]; exact Ex.mut (e3.trans e4) hlw0
    have hw5 : H5 lw = some (.lst (ts0.map V.ref)) := by rw [← hH5]; exact upd_same
    have hf5 := k5 _ _ hf4 nfw
    refine ⟨bt, workV (here, mk), rfl, st_of (k5t _ _ hbt4), rfl, natV here, [.bl mk], rfl, .bl mk, [], rfl, rfl, ?_⟩
    -- kind, first, second = self.built[here]
    have hM5 := hM.mono e5
    obtain ⟨hx5, _, as, bs, hl, hlb, _, _, h6⟩ := id hM5
    obtain ⟨pb, hpb, hpt⟩ := h6.at hpart
    have bp := ev_op (r := rIxL K) (ta := tFld K (tVar 0) "built") (tb := tVar 4) (σ := [some (.ref A.x), some (natV i), some (.ref lf), some (.ref lw), some (natV here), some (.bl mk), v6, v7, v8]) (ev_fld (ev_var (v := .ref A.x) (i := 0) rfl) hx5 T.cl_Monoid T.nM2 (mon_built A)) (ev_var (v := natV here) (i := 4) rfl) (rv_ixL (sq_of hlb) (atI_nat (v := .ref pb) (by rw [List.getElem?_map, hpb]; rfl)))
    refine bp H5 (Ex.refl H5) _ fun H6 e6 => ?_
    refine ⟨pb, partV (kind, first, second), rfl, st_of (e6 _ _ hpt), rfl, .int kind, [.int first, .int second], rfl, .int first, [.int second], rfl, .int second, [], rfl, rfl, ?_⟩
    have hw6 := e6 _ _ hw5
    have hf6 := e6 _ _ hf5
    have hr6 : All2 (fun b w => H6 b = some (.tup (workV w))) ts0 ws0 := hr.mapR fun b x hb => e6 _ _ (k5t _ _ (e4 _ _ hb))
    have e6' := e5.trans e6
    refine s_if (et_or (b := decide (first < 0)) (et_B (ev_var (v := .bl mk) (i := 5) rfl)) fun _ => et_test (ev_op (ev_var (v := .int first) (i := 7) rfl) (ev_c (v := .int 0)) (rv_I0 (g := fun i j => .bl (decide (i < j)))))) (fun hb2 H7 e7 => ?_) (fun hb2 H7 e7 => ?_)
    · have hc : mk = true ∨ first < 0 := by simpa using hb2
      obtain ⟨kn, hkn, hrest, hload⟩ := hmark hc
      rw [hrest] at bound hout
      rw [List.length_cons] at bound
      refine s_appZ (v := natV kn) (e7 _ _ hf6) (ev_var (v := .ref lf) (i := 2) rfl) (ev_is (ev_var (v := .int kind) (i := 6) rfl) (by rw [hkn]; rfl)) (by unfold intsV; rw [List.length_map]; omega) fun H8 e8 => ?_
      have nwf := fun z : lw = lf => nfw z.symm
      have e78 := e7.trans e8
      refine ⟨_, hload, ws0, ts0, out ++ [kn], _, _, _, _, _, rfl, Ex.mut (e6'.trans e78) hlf, ?_, ?_, hr6.mapR fun b x hb => ?_, hin0, ?_, rfl⟩
      · unfold intsV; rw [List.map_append]; exact upd_same
      · rw [upd_ne nwf]; exact e78 _ _ hw6
      · rw [upd_ne (fun z => by rw [z, hf6] at hb; cases hb)]; exact e78 _ _ hb
      · rw [List.append_assoc]; exact hout
    · have hc : mk = false ∧ ¬ first < 0 := by simpa using hb2
      obtain ⟨pp, hpp, hpl, hone, htwo⟩ := hlay hc.1 hc.2
      -- waiting.append((here, True))
      have item : ∀ {Hh : Hp} {σ2 : L2.St} {n : Nat} {b : Bool} {x : V} {i : Nat}, σ2[i]? = some (some x) → x = natV n → EvU (tTup (tCons (tVar i) (tCons (tC (.bl b)) tNil))) σ2 Hh (workV (n, b)) := fun h1 h2 => eu_tup (ea_two (ev_is (ev_var h1) h2) ev_c) (by show 2 ≤ 100000; decide)
      have s_appUZ : ∀ {Hh : Hp} {xs ys : List V} {te : TE} {σ2 : L2.St} {D : Ends}, Hh lw = some (.lst xs) → σ2[3]? = some (some (.ref lw)) → EvU te σ2 Hh ys → xs.length < sizeLine → (∀ p H1, Hh p = none → Ex Hh H1 → H1 p = some (.tup ys) → D.nx σ2 (upd H1 lw (.lst (xs ++ [.ref p])))) →
          tDrop (tBM K "list" rAppend (tVar 3) (tCons te tNil)) D σ2 Hh := fun {Hh xs ys te σ2 D} hl h3 hu hzz k => ⟨.ref lw, h3, Or.inl ⟨rfl, xs, sq_of hl⟩, hu Hh (Ex.refl Hh) _ fun p H2 hp e2 h2 => ⟨lw, xs, .ref p, rfl, rfl, e2 _ _ hl, hzz, k p H2 hp e2 h2⟩⟩
      -- one item more in the work
      have grow : ∀ {H1 H2 : Hp} {ws1 : List Work} {ts1 : List Addr} {x : Work} {b : Addr}, All2 (fun b w => H1 b = some (.tup (workV w))) ts1 ws1 → H1 lw = some (.lst (ts1.map V.ref)) → Ex H1 H2 → H2 b = some (.tup (workV x)) →
          All2 (fun c w => upd H2 lw (.lst (ts1.map V.ref ++ [.ref b])) c = some (.tup (workV w))) (ts1 ++ [b]) (ws1 ++ [x]) := fun {H1 H2 ws1 ts1 x b} hr1 hl1 e hbx =>
        All2.snoc (hr1.mapR fun c y hc => by rw [upd_ne (fun z => by rw [z, hl1] at hc; cases hc)]; exact e _ _ hc) (by rw [upd_ne (fun z => by rw [z, e _ _ hl1] at hbx; cases hbx)]; exact hbx)
      have hr7 : All2 (fun b w => H7 b = some (.tup (workV w))) ts0 ws0 := hr6.mapR fun b x hb => e7 _ _ hb
      have hw7 := e7 _ _ hw6
      refine s_appUZ (ys := workV (here, true)) hw7 rfl (item (x := natV here) (i := 4) rfl rfl) (by rw [List.length_map]; omega) fun b1 H8 hb1 e8 hbt1 => ?_
      have G1 := grow hr7 hw7 e8 hbt1
      have eA : Ex H (upd H8 lw (.lst (ts0.map V.ref ++ [.ref b1]))) := Ex.mut ((e6'.trans e7).trans e8) hlw0
      have fA : upd H8 lw (.lst (ts0.map V.ref ++ [.ref b1])) lf = some (.lst (intsV out)) := by rw [upd_ne nfw]; exact (e7.trans e8) _ _ hf6
      have wA : upd H8 lw (.lst (ts0.map V.ref ++ [.ref b1])) lw = some (.lst ((ts0 ++ [b1]).map V.ref)) := by rw [List.map_append]; exact upd_same
      generalize upd H8 lw (.lst (ts0.map V.ref ++ [.ref b1])) = HA at G1 eA fA wA
      refine s_when (et_test (ev_op (ev_var (v := .int second) (i := 8) rfl) (ev_c (v := .int 0)) (rv_I0 (g := fun i j => .bl (decide (j ≤ i)))))) (fun hb3 H9 e9 => ?_) (fun hb3 H9 e9 => ?_)
      · have hs : ¬ second < 0 := by have := of_decide_eq_true hb3; omega
        obtain ⟨qq, hqq, hql, hrest, hload⟩ := htwo hs
        rw [hrest] at bound hout
        have r2 : 1 ≤ (rest L [(pp, false)]).length := by
          have := rest_len (L := L) (ws := [(pp, false)]) (fun x hx => by rw [List.mem_singleton.mp hx]; exact hpl)
          simpa using this
        have w3 := rest_len (L := L) (ws := ws0 ++ [(here, true), (qq, false), (pp, false)]) (fun x hx => by
          rcases List.mem_append.mp hx with z | z
          · exact hin0 x z
          · simp only [List.mem_cons, List.not_mem_nil, or_false] at z
            rcases z with z | z | z <;> (rw [z]; assumption))
        have w3' : ws0.length + 3 ≤ 10000000 := by
          have : (ws0 ++ [(here, true), (qq, false), (pp, false)]).length = ws0.length + 3 := by simp
          omega
        refine s_appUZ (ys := workV (qq, false)) (e9 _ _ wA) rfl (item (x := .int second) (i := 8) rfl (by rw [hqq]; rfl)) (by rw [List.length_map, List.length_append, List.length_singleton]; omega) fun b2 HB hb2 eB hbt2 => ?_
        have G2 := grow (G1.mapR fun b x hb => e9 _ _ hb) (e9 _ _ wA) eB hbt2
        have eB2 : Ex H (upd HB lw (.lst ((ts0 ++ [b1]).map V.ref ++ [.ref b2]))) := Ex.mut ((eA.trans e9).trans eB) hlw0
        have fB : upd HB lw (.lst ((ts0 ++ [b1]).map V.ref ++ [.ref b2])) lf = some (.lst (intsV out)) := by rw [upd_ne nfw]; exact (e9.trans eB) _ _ fA
        have wB : upd HB lw (.lst ((ts0 ++ [b1]).map V.ref ++ [.ref b2])) lw = some (.lst ((ts0 ++ [b1] ++ [b2]).map V.ref)) := by rw [List.map_append (l₁ := ts0 ++ [b1])]; exact upd_same
        generalize upd HB lw (.lst ((ts0 ++ [b1]).map V.ref ++ [.ref b2])) = HC at G2 eB2 fB wB
        refine s_appUZ (ys := workV (pp, false)) wB rfl (item (x := .int first) (i := 7) rfl (by rw [hpp]; rfl)) (by rw [List.length_map, List.length_append, List.length_append, List.length_singleton, List.length_singleton]; omega) fun b3 HD hb3 eD hbt3 => ?_
        have G3 := grow G2 wB eD hbt3
        refine ⟨_, hload, ws0 ++ [(here, true), (qq, false), (pp, false)], ts0 ++ [b1] ++ [b2] ++ [b3], out, _, _, _, _, _, rfl, Ex.mut (eB2.trans eD) hlw0, ?_, ?_, ?_, ?_, hout, rfl⟩
        · rw [upd_ne nfw]; exact eD _ _ fB
        · rw [List.map_append (l₁ := ts0 ++ [b1] ++ [b2])]; exact upd_same
        · have e10 : ws0 ++ [(here, true), (qq, false), (pp, false)] = ws0 ++ [(here, true)] ++ [(qq, false)] ++ [(pp, false)] := by simp
          rw [e10]; exact G3
        · intro x hx
          rcases List.mem_append.mp hx with z | z
          · exact hin0 x z
          · simp only [List.mem_cons, List.not_mem_nil, or_false] at z
            rcases z with z | z | z <;> (rw [z]; assumption)
      · have hs : second < 0 := by have := of_decide_eq_false hb3; omega
        obtain ⟨hrest, hload⟩ := hone hs
        rw [hrest] at bound hout
        have w3 := rest_len (L := L) (ws := ws0 ++ [(here, true), (pp, false)]) (fun x hx => by
          rcases List.mem_append.mp hx with z | z
          · exact hin0 x z
          · simp only [List.mem_cons, List.not_mem_nil, or_false] at z
            rcases z with z | z <;> (rw [z]; assumption))
        have w3' : ws0.length + 2 ≤ 10000000 := by
          have : (ws0 ++ [(here, true), (pp, false)]).length = ws0.length + 2 := by simp
          omega
        refine s_appUZ (ys := workV (pp, false)) (e9 _ _ wA) rfl (item (x := .int first) (i := 7) rfl (by rw [hpp]; rfl)) (by rw [List.length_map, List.length_append, List.length_singleton]; omega) fun b3 HD hb3 eD hbt3 => ?_
        have G3 := grow (G1.mapR fun b x hb => e9 _ _ hb) (e9 _ _ wA) eD hbt3
        refine ⟨_, hload, ws0 ++ [(here, true), (pp, false)], ts0 ++ [b1] ++ [b3], out, _, _, _, _, _, rfl, Ex.mut ((eA.trans e9).trans eD) hlw0, ?_, ?_, ?_, ?_, hout, rfl⟩
        · rw [upd_ne nfw]; exact (e9.trans eD) _ _ fA
        · rw [List.map_append (l₁ := ts0 ++ [b1])]; exact upd_same
        · have e10 : ws0 ++ [(here, true), (pp, false)] = ws0 ++ [(here, true)] ++ [(pp, false)] := by simp
          rw [e10]; exact G3
        · intro x hx
          rcases List.mem_append.mp hx with z | z
          · exact hin0 x z
          · simp only [List.mem_cons, List.not_mem_nil, or_false] at z
            rcases z with z | z <;> (rw [z]; assumption)
  · -- nothing is left
    have hz0 : ws = [] := by
      have := of_decide_eq_false hb
      exact List.length_eq_zero_iff.mp (by omega)
    rw [hz0] at hout
    have e11 : out = Kh420.toPostfix e.2 := by rw [← hout]; exact (List.append_nil _).symm
    rw [e11] at hf
    exact s_retP (evp_ev (ev_var (v := .ref lf) (i := 2) rfl)) fun v H5 e5 ev => q v H5 ((e3.trans e4).trans e5) ⟨lf, ev, (e4.trans e5) _ _ hf⟩
end
end Cr

/-! Readings: the search. -/
namespace Cr
open PySem PySem.Spec PyProof.Rows L2 Evl Cw
section
variable {P : Program} {w : World} {K : PySem.W.Frag} {mg : Str → Option Value} {base : Heap} {ad : Ad} {σ : L2.St} {H H' : Hp} {ta tb tc te : TE} {a : Addr} {m : Aut} {D : Ends}
theorem s_forEnum {l : Addr} {xs : List V} {tl : TE} {i0 j0 : Nat} {tu : TS} (h : Ev tl σ H (.ref l)) (hx : SqL K H l xs) (Pv : Nat → L2.St → Hp → Prop) (h0 : ∀ H1, Ex H H1 → Pv 0 σ H1) (hl : ∀ i σ' H', i ≤ xs.length → Pv i σ' H' → SqL K H' l xs)
    (hs : ∀ i x σ' H' T, xs[i]? = some x → Pv i σ' H' → H' T = none → tu { D with nx := Pv (i + 1), ct := Pv (i + 1), bk := D.nx } ((σ'.set i0 (some (natV i))).set j0 (some x)) (upd H' T (.tup [natV i, x]))) (hd : ∀ σ' H', Pv xs.length σ' H' → D.nx σ' H') :
    tFor (iEnum K (tCons tl tNil)) (gTup K 2 (gCons (gName i0) (gCons (gName j0) gNil))) tu D σ H :=
  h H (Ex.refl H) _ fun H1 e => ⟨l, xs, rfl, ex_l e hx, for_it walk_enum Pv (h0 H1 e) hl (fun i x σ' H' H2 hi p ⟨T, y, z, ev, hT, eH, ey, ez⟩ => by
    subst ev eH
    cases ey
    exact ⟨T, [natV i, z], rfl, st_of upd_same, rfl, natV i, [z], rfl, z, [], rfl, rfl, hs i z σ' H' T ez p hT⟩) hd⟩
/-! ### the tables of the symbols -/
/-- rows none of which is the list at Dl -/
def RowsOff (Dl : Addr) (H : Hp) (b : Addr) (T : Kh419.Matrix) : Prop := ∃ qs : List Addr, H b = some (.lst (qs.map V.ref)) ∧ b ≠ Dl ∧ All2 (fun c r => H c = some (.lst (r.map wV)) ∧ c ≠ Dl) qs T
theorem RowsOff.mono {Dl b : Addr} {T : Kh419.Matrix} (e : Ex H H') (h : RowsOff Dl H b T) : RowsOff Dl H' b T := let ⟨qs, h1, h2, h3⟩ := h; ⟨qs, e _ _ h1, h2, h3.mapR fun _ _ q => ⟨e _ _ q.1, q.2⟩⟩
theorem RowsOff.upd {Dl b : Addr} {T : Kh419.Matrix} {o : HO} (h : RowsOff Dl H b T) : RowsOff Dl (L2.upd H Dl o) b T := let ⟨qs, h1, h2, h3⟩ := h; ⟨qs, by rw [upd_ne h2]; exact h1, h2, h3.mapR fun _ _ q => ⟨by rw [upd_ne q.2]; exact q.1, q.2⟩⟩
theorem RowsOff.rows {Dl b : Addr} {T : Kh419.Matrix} (h : RowsOff Dl H b T) : RowsAt H b T := let ⟨qs, h1, _, h3⟩ := h; ⟨qs, h1, h3.mapR fun _ _ q => q.1⟩
theorem evp_tables {tr : TA} (htr : EvA tr σ H [natV m.k]) (T : Txt K mg ad) (A : AutAt ad H a m) (ok : m.Ok) (h1 : σ[1]? = some (some (.ref a))) (hw1 : ∀ x, ((wipe σ [6]).set 6 x)[1]? = some (some (.ref a))) (hw6 : ∀ x, ((wipe σ [6]).set 6 (some x))[6]? = some (some x)) (hw : ∀ x, wipe ((wipe σ [6]).set 6 (some x)) [6] = wipe σ [6]) :
    EvP (tLc (iRng1 tr) (gName 6) tYes (tMeth ad.a "rows_of" (sp_Automaton_rows_of P w K ad) [] E0 (tVar 1) (tCons (tVar 6) tNil)) [6]) σ H
      (fun v H2 => ∃ (p : Addr) (rs : List Addr), v = .ref p ∧ H2 p = some (.lst (rs.map V.ref)) ∧ rs.length = m.k ∧ ∀ (s : Nat) (b : Addr), rs[s]? = some b → RowsAt H2 b (m.T s)) := fun H0 e Q q => by
  refine htr H0 e _ fun H1 e1 => ?_
  have k2 := ok.k2
  refine ⟨(m.k : Int), rfl, by omega, by omega, fun Dl hD => ?_⟩
  refine lc_range (lo := 0) (n := ((m.k : Int)).toNat) (fun i H' => H1 Dl = none ∧ Ex H1 H' ∧ ∃ rs : List Addr, H' Dl = some (.lst (rs.map V.ref)) ∧ rs.length = i ∧ ∀ (s : Nat) (b : Addr), rs[s]? = some b → RowsOff Dl H' b (m.T s)) ⟨hD, Ex.new hD, [], upd_same, rfl, fun s b hb => by simp at hb⟩ ?_ ?_
  · rintro s H' hs ⟨_, e2, rs, hr, hl, hT⟩
    rw [Int.zero_add]
    refine ⟨hw _, ?_⟩
    unfold tYes
    show ite _ _ _
    rw [if_pos rfl]
    have A' := A.mono ((e.trans e1).trans e2)
    obtain ⟨dx, wd, A1, A2⟩ := id A'
    refine ⟨.ref a, hw1 _, a, dx, autF m wd, rfl, A1, autNo_is (by decide +kernel) m wd, natV s, hw6 _, ?_⟩
    refine ⟨_, _, rfl, a, m, s, rfl, rfl, A', ok, fun v H2 e3 ⟨p, ev, hp, hf⟩ => ?_⟩
    subst ev
    have hp' : RowsOff Dl H2 p (m.T s) := by
      obtain ⟨qs, q1, q2⟩ := hp
      refine ⟨qs, q1, (ne_of_none hr hf.1).symm, q2.1, fun i c r hc hr' => ⟨q2.2 i c r hc hr', ?_⟩⟩
      have := hf.2 qs q1 c (List.mem_of_getElem? hc)
      exact (ne_of_none hr this).symm
    refine ⟨rs.map V.ref, e3 _ _ hr, by rw [List.length_map, hl]; exact sz_lt (by omega), hD, Ex.mut (e2.trans e3) hD, rs ++ [p], by rw [List.map_append]; exact upd_same, by simp [hl], fun t b hb => ?_⟩
    by_cases lt : t < rs.length
    · rw [List.getElem?_append_left lt] at hb
      exact ((hT t b hb).mono e3).upd
    · have l2 := (List.getElem?_eq_some_iff.mp hb).1
      rw [List.length_append, List.length_singleton] at l2
      have : t = s := by omega
      subst this
      rw [List.getElem?_append_right (by omega), show t - rs.length = 0 by omega] at hb
      cases hb
      exact hp'.upd
  · rintro H' ⟨_, e2, rs, hr, hl, hT⟩
    rw [Int.toNat_natCast] at hl
    exact q _ H' (e1.trans e2) ⟨Dl, rs, rfl, hr, hl, fun s b hb => (hT s b hb).rows⟩
/-! ### rows of costs as keys -/
def keyVec (v : Vec) : NestedKey := .tup (v.map fun x => NestedKey.num (encI x))
theorem key_encs : ∀ v : Vec, KeyAll H (v.map fun x => NestedKey.num (encI x)) (v.map encF)
  | [] => .nil
  | x :: r => .cons (.num _) (key_encs r)
theorem key_vec {v : Vec} (h : VecAt H a v) : KeyAt H (keyVec v) (.ref a) := .tup h (key_encs v)
theorem depth_vec (v : Vec) : (keyVec v).depth ≤ 8 := by
  have key : ∀ v : Vec, NestedKey.depthAll (v.map fun x => NestedKey.num (encI x)) = 0 := by
    intro v
    induction v with
    | nil => rfl
    | cons x r ih =>
      show max (NestedKey.depth (.num _)) (NestedKey.depthAll _) = 0
      rw [ih]; rfl
  show NestedKey.depthAll (v.map fun x => NestedKey.num (encI x)) + 1 ≤ 8
  rw [key]; omega
/-- below the mark for no path -/
theorem enc_inj {x y : Option Nat} (hx : ∀ c, x = some c → c ≤ 999999) (hy : ∀ c, y = some c → c ≤ 999999) (h : encI x = encI y) : x = y := by
  cases x with
  | none =>
    cases y with
    | none => rfl
    | some d =>
      have := hy d rfl
      have h : (1000000 : Int) = (d : Int) := h
      omega
  | some c =>
    cases y with
    | none =>
      have := hx c rfl
      have h : (c : Int) = (1000000 : Int) := h
      omega
    | some d =>
      have h : (c : Int) = (d : Int) := h
      rw [Int.ofNat.inj h]
theorem keyVec_inj : ∀ {v u : Vec}, Below 999999 v → Below 999999 u → keyVec v = keyVec u → v = u
  | [], [], _, _, _ => rfl
  | [], _ :: _, _, _, h => by unfold keyVec at h; injection h with h; cases h
  | _ :: _, [], _, _, h => by unfold keyVec at h; injection h with h; cases h
  | x :: v, y :: u, hv, hu, h => by
    unfold keyVec at h
    injection h with h
    injection h with h1 h2
    injection h1 with h1
    have e1 := enc_inj (fun c e => hv x List.mem_cons_self c e) (fun c e => hu y List.mem_cons_self c e) h1
    have e2 := keyVec_inj (v := v) (u := u) (fun z hz => hv z (List.mem_cons_of_mem _ hz)) (fun z hz => hu z (List.mem_cons_of_mem _ hz)) (by unfold keyVec; rw [h2])
    rw [e1, e2]
def knV (Q : Queue) (as : List Addr) : KnL := (Q.zip as).map fun p => (keyVec p.1.1, p.2)
theorem knV_keys {Q : Queue} {as : List Addr} (h : All2 (fun b (e : Vec × List Nat) => VecAt H b e.1) as Q) : KnKeys H (knV Q as) := by
  intro p hp
  unfold knV at hp
  obtain ⟨q, hq, rfl⟩ := List.mem_map.mp hp
  obtain ⟨i, hi⟩ := List.getElem?_of_mem hq
  rw [List.getElem?_zip_eq_some] at hi
  exact ⟨key_vec (h.2 i q.2 q.1 hi.2 hi.1), depth_vec _⟩
theorem knV_has {Q : Queue} {as : List Addr} (hl : as.length = Q.length) (hb : ∀ e ∈ Q, Below 999999 e.1) {v : Vec} (hv : Below 999999 v) : knHas (knV Q as) (keyVec v) = Q.any fun e => e.1 == v := by
  unfold knHas knV
  rw [List.any_map]
  conv => rhs; rw [← zip_fst hl]
  rw [List.any_map, Bool.eq_iff_iff, List.any_eq_true, List.any_eq_true]
  have key : ∀ p ∈ Q.zip as, (((fun p => decide (p.1 = keyVec v)) ∘ fun p => (keyVec p.1.1, p.2)) p = true ↔ (((fun e : Vec × List Nat => e.1 == v) ∘ fun p => p.1) p = true)) := by
    intro p hp
    have hm : p.1 ∈ Q := by
      have := List.mem_map_of_mem (f := fun x => x.1) hp
      rw [zip_fst hl] at this
      exact this
    show decide (keyVec p.1.1 = keyVec v) = true ↔ (p.1.1 == v) = true
    rw [decide_eq_true_eq, beq_iff_eq]
    exact ⟨keyVec_inj (hb _ hm) hv, fun h => by rw [h]⟩
  constructor
  · rintro ⟨p, hp, h⟩; exact ⟨p, hp, (key p hp).mp h⟩
  · rintro ⟨p, hp, h⟩; exact ⟨p, hp, (key p hp).mpr h⟩
theorem knV_snoc {Q : Queue} {as : List Addr} (hl : as.length = Q.length) (e : Vec × List Nat) (b : Addr) : knV (Q ++ [e]) (as ++ [b]) = knV Q as ++ [(keyVec e.1, b)] := by
  unfold knV
  rw [List.zip_append hl.symm, List.map_append]
  rfl
/-! ### the object -/
def seaF (lm lw : Addr) : List (Str × V) := [("met", .ref lm), ("ways", .ref lw)]
theorem sea_met (lm lw : Addr) : (seaF lm lw).lookup ("met" : Str) = some (.ref lm) := lk_here
theorem sea_ways (lm lw : Addr) : (seaF lm lw).lookup ("ways" : Str) = some (.ref lw) := (lk_past (by decide +kernel)).trans lk_here
theorem sea_new (lm lw : Addr) : putF "ways" (.ref lw) (putF "met" (.ref lm) []) = seaF lm lw := (put_past (by decide +kernel)).trans rfl
theorem SeaAt.mono {p : Addr} {Qu : Queue} {W : List (Int × Int)} (e : Ex H H') (h : SeaAt ad H p Qu W) : SeaAt ad H' p Qu W :=
  let ⟨dx, lm, lw, h1, as, bs, h2, h3, h4, h5⟩ := h
  ⟨dx, lm, lw, e _ _ h1, as, bs, e _ _ h2, e _ _ h3, h4.mapR fun _ _ q => q.mono e, h5.mapR fun _ _ q => e _ _ q⟩
theorem pure_Search_word_to (T : Txt K mg ad) (vs : List V) (H : Hp) (Q : VK) (E : XK) (h : sp_Search_word_to P w K ad vs H Q E) : t_Search_word_to P w K ad { nx := fun _ H' => Q .non H', rt := Q } (start N_Search_word_to vs) H := by
  obtain ⟨_, _, rfl, p, Qu, W, i, e, rfl, rfl, hS, hW, hz, hi, q⟩ := h
  have li := (List.getElem?_eq_some_iff.mp hi).1
  refine q_asgL (el_lst ea_nil (Nat.zero_le _)) fun l0 H1 hl0 e1 h1 => ?_
  refine q_asg (v := natV i) (ev_var (i := 1) rfl) fun H2 e2 => ?_
  refine q_while (fun n σ' H' => ∃ (here : Nat) (x : Vec × List Nat) (out : List Nat) (v4 v5 : Option V), σ' = [some (.ref p), some (natV i), some (.ref l0), some (natV here), v4, v5] ∧ Ex H H' ∧ H' l0 = some (.lst (intsV out)) ∧ Qu[here]? = some x ∧ x.2 ++ out = e.2 ∧ out.length + here ≤ 100000 ∧ n = here) i
    ⟨i, e, [], none, none, rfl, e1.trans e2, e2 _ _ h1, hi, List.append_nil _, by simp; omega, rfl⟩ ?_
  rintro here σ' H3 ⟨_, x, out, v4, v5, rfl, e3, ho, hx, hw, hlen, rfl⟩
  refine ⟨_, et_test (ev_gtN (b := 0) (ev_var (v := natV here) (i := 3) rfl) ev_cN), fun hb H4 e4 => ?_, fun hb H4 e4 => ?_⟩
  · have hpos : 0 < here := of_decide_eq_true hb
    rcases hW.way here x hx with ⟨z, _⟩ | ⟨pp, s, x', hpp, hx', hs, hway⟩
    · omega
    obtain ⟨dx, lm, lw, S1, as, bs, S2, S3, S4, S5⟩ := hS.mono (e3.trans e4)
    obtain ⟨bw, hbw, hbt⟩ := S5.at hway
    have get := ev_op (r := rIxL K) (ta := tFld K (tVar 0) "ways") (tb := tVar 3) (σ := [some (.ref p), some (natV i), some (.ref l0), some (natV here), v4, v5]) (ev_fld (ev_var (v := .ref p) (i := 0) rfl) S1 T.cl_Search T.nS2 (sea_ways lm lw)) (ev_var (v := natV here) (i := 3) rfl) (rv_ixL (sq_of S3) (atI_nat (v := .ref bw) (by rw [List.getElem?_map, hbw]; rfl)))
    refine ⟨fun σ2 H2 => ∃ n', n' < here ∧ ∃ (here : Nat) (x : Vec × List Nat) (out : List Nat) (v4 v5 : Option V), σ2 = [some (.ref p), some (natV i), some (.ref l0), some (natV here), v4, v5] ∧ Ex H H2 ∧ H2 l0 = some (.lst (intsV out)) ∧ Qu[here]? = some x ∧ x.2 ++ out = e.2 ∧ out.length + here ≤ 100000 ∧ n' = here, fun _ _ h => h, ?_⟩
    refine get H4 (Ex.refl H4) _ fun H5 e5 => ?_
    refine ⟨bw, wayV ((pp : Int), (s : Int)), rfl, st_of (e5 _ _ hbt), rfl, .int (pp : Int), [.int (s : Int)], rfl, .int (s : Int), [], rfl, rfl, ?_⟩
    have ho5 := (e4.trans e5) _ _ ho
    refine ⟨.ref l0, rfl, Or.inl ⟨rfl, _, sq_of ho5⟩, .int (s : Int), rfl, l0, intsV out, 0, natV s, rfl, rfl, ho5, by unfold intsV; rw [List.length_map]; exact Nat.lt_of_le_of_lt (by omega : out.length ≤ 100000) (by decide), by omega, by omega, ?_⟩
    refine s_asg (ev_var (v := natV pp) (i := 4) rfl) fun H6 e6 => ?_
    have e6' : Ex H (upd H5 l0 (.lst ((intsV out).take (0 : Int).toNat ++ [natV s] ++ (intsV out).drop (0 : Int).toNat))) := Ex.mut ((e3.trans e4).trans e5) hl0
    refine ⟨pp, hpp, pp, x', s :: out, some (natV pp), some (natV s), rfl, e6'.trans e6, ?_, hx', ?_, by rw [List.length_cons]; omega, rfl⟩
    · rw [e6 _ _ upd_same]; rfl
    · rw [← hw, hs, List.append_assoc]; rfl
  · have h0 : here = 0 := by have := of_decide_eq_false hb; omega
    subst h0
    rcases hW.way 0 x hx with ⟨_, hx0, _⟩ | ⟨pp, _, _, hpp, _⟩
    · rw [hx0] at hw
      have hw : out = e.2 := hw
      rw [hw] at ho
      exact s_retP (evp_ev (ev_var (v := .ref l0) (i := 2) rfl)) fun v H5 e5 ev => q v H5 ((e3.trans e4).trans e5) ⟨l0, ev, (e4.trans e5) _ _ ho⟩
    · omega
end
end Cr

/-! Readings: the search, its making and its uses. -/
namespace Cr
open PySem PySem.Spec PyProof.Rows L2 Evl Cw
section
variable {P : Program} {w : World} {K : PySem.W.Frag} {mg : Str → Option Value} {base : Heap} {ad : Ad} {σ : L2.St} {H H' : Hp} {ta tb tc te tv : TE} {a : Addr} {m : Aut} {D : Ends} {tz : TS}
theorem q_fldP {R : V → Hp → Prop} (mono : ∀ v H1 H2, Ex H1 H2 → R v H1 → R v H2) {o C dx : Addr} {fs : List (Str × V)} {f : Str} (h : EvP tv σ H R) (ho : Ev ta σ H (.ref o)) (hi : H o = some (.ins C dx fs)) (c : Cls K C) (n : NoAttr K C f) (hl : fs.length < 1000)
    (k : ∀ v H1, Ex H H1 → R v H1 → tz D σ (upd H1 o (.ins C dx (putF f v fs)))) : tSeq (sFld K ta tv f) tz D σ H :=
  h H (Ex.refl H) _ fun v H1 e1 r => ho H1 e1 _ fun H2 e2 => ⟨o, C, dx, fs, rfl, (e1.trans e2) _ _ hi, c, n, hl, k v H2 (e1.trans e2) (mono _ _ _ e2 r)⟩
theorem q_forEnum {l : Addr} {xs : List V} {tl : TE} {i0 j0 : Nat} {tu : TS} (h : Ev tl σ H (.ref l)) (hx : SqL K H l xs) (Pv : Nat → L2.St → Hp → Prop) (h0 : ∀ H1, Ex H H1 → Pv 0 σ H1) (hl : ∀ i σ' H', i ≤ xs.length → Pv i σ' H' → SqL K H' l xs)
    (hs : ∀ i x σ' H' T, xs[i]? = some x → Pv i σ' H' → H' T = none → tu { D with nx := Pv (i + 1), ct := Pv (i + 1), bk := tz D } ((σ'.set i0 (some (natV i))).set j0 (some x)) (upd H' T (.tup [natV i, x]))) (hd : ∀ σ' H', Pv xs.length σ' H' → tz D σ' H') :
    tSeq (tFor (iEnum K (tCons tl tNil)) (gTup K 2 (gCons (gName i0) (gCons (gName j0) gNil))) tu) tz D σ H :=
  s_forEnum (D := { D with nx := tz D }) h hx Pv h0 hl hs hd
theorem evp_lst1 {R : V → Hp → Prop} (mono : ∀ v H1 H2, Ex H1 H2 → R v H1 → R v H2) (h : EvP te σ H R) : EvP (tLst (tCons te tNil)) σ H (fun v H2 => ∃ p y, v = .ref p ∧ H2 p = some (.lst [y]) ∧ R y H2 ∧ H p = none) := fun H1 e Q q =>
  h H1 e _ fun v H2 e2 r => ⟨by show 1 ≤ sizeLine; decide, fun p hp => q _ _ (e2.trans (Ex.new hp)) ⟨p, v, rfl, upd_same, mono _ _ _ (Ex.new hp) r, fresh_back (e.trans e2) hp⟩⟩
/-- the search as it grows -/
structure SeaI (P : Program) (w : World) (ad : Ad) (p dx lm lw kd : Addr) (Qu : Queue) (W : List (Int × Int)) (H : Hp) : Prop where
  ob : H p = some (.ins ad.s dx (seaF lm lw))
  ls : ∃ as bs : List Addr, H lm = some (.lst (as.map V.ref)) ∧ H lw = some (.lst (bs.map V.ref)) ∧ H kd = some (KnO P w kd (knV Qu as)) ∧ All2 (fun b (e : Vec × List Nat) => VecAt H b e.1) as Qu ∧ All2 (fun b p => H b = some (.tup (wayV p))) bs W
theorem SeaI.mono {p dx lm lw kd : Addr} {Qu : Queue} {W : List (Int × Int)} (e : Ex H H') (h : SeaI P w ad p dx lm lw kd Qu W H) : SeaI P w ad p dx lm lw kd Qu W H' :=
  let ⟨h1, as, bs, h2, h3, h4, h5, h6⟩ := h
  ⟨e _ _ h1, as, bs, e _ _ h2, e _ _ h3, e _ _ h4, h5.mapR fun _ _ q => q.mono e, h6.mapR fun _ _ q => e _ _ q⟩
/-- all but the search's own lists and dict -/
def FrS (lm lw kd : Addr) (H H' : Hp) : Prop := ∀ b o, H b = some o → b ≠ lm → b ≠ lw → b ≠ kd → H' b = some o
theorem below_small {B : Nat} (hB : B ≤ 12) {a : Au} {ws : List Nat} : Below 999999 (vecB a B ws) := fun x hx c e => by
  have := vecB_le a B ws x hx c e
  omega
theorem sea_small {B : Nat} (hB : B ≤ 12) {Qu : Queue} {i : Nat} (h : SInv m.abs B Qu i) (ok : m.Ok) : Qu.length ≤ 3375 := by
  have h1 := sinv_len h ok.n3
  have h2 : (B + 3) ^ 3 ≤ 15 ^ 3 := Nat.pow_le_pow_left (by omega) 3
  omega
theorem step_below {B : Nat} (hB : B ≤ 12) {v : Vec} {s : Nat} : Below 999999 (Kh420.stepVector m.abs B v s) := fun x hx c e => by
  rw [step_cap] at hx
  unfold capV at hx
  obtain ⟨y, _, q⟩ := List.mem_map.mp hx
  subst e
  cases y with
  | none => cases q
  | some d =>
    have : min d (B + 1) = c := Option.some.inj q
    omega
/-- one symbol's turn -/
theorem sea_turn (T : Txt K mg ad) {p dx lm lw kd tb r : Addr} {Qu : Queue} {W : List (Int × Int)} {B place s i : Nat} {cur : Vec × List Nat} {v8 : Option V} (ok : m.Ok) (hB : B ≤ 12) (nml : lm ≠ lw) (hS : SeaI P w ad p dx lm lw kd Qu W H) (hW : Ways Qu W) (hI : SInv m.abs B Qu i) (hs : s < m.k) (hr : RowsAt H r (m.T s)) (hc : Qu[place]? = some cur)
    (k : ∀ H' W' v8', SeaI P w ad p dx lm lw kd (addV m.abs B cur Qu s) W' H' → Ways (addV m.abs B cur Qu s) W' → FrS lm lw kd H H' → D.nx [some (.ref p), some (.ref a), some (.int ((B : Int) + 1)), some (.ref tb), some (.ref kd), some (natV place), some (natV s), some (.ref r), v8'] H') :
    (tSeq (tAsg (tCall (sp_next_costs P w K ad) [] E0 (tCons (tVar 7) (tCons (tOp (rIxL K) (tFld K (tVar 0) "met") (tVar 5)) (tCons (tVar 2) tNil)))) (gName 8)) (tIfS (tB (tKnNot P w (tVar 8) (tVar 4))) (tSeq (sKnPut P w (tVar 4) (tVar 8) (tC (.bl true)))
      (tSeq (tDrop (tBM K "list" rAppend (tFld K (tVar 0) "met") (tCons (tVar 8) tNil))) (tDrop (tBM K "list" rAppend (tFld K (tVar 0) "ways") (tCons (tTup (tCons (tVar 5) (tCons (tVar 6) tNil))) tNil))))) tNext)) D
      [some (.ref p), some (.ref a), some (.int ((B : Int) + 1)), some (.ref tb), some (.ref kd), some (natV place), some (natV s), some (.ref r), v8] H := by
  obtain ⟨ob, as, bs, h2, h3, h4, h5, h6⟩ := id hS
  have hsm := sea_small hB hI ok
  have lal : as.length ≤ 3375 := by rw [h5.1]; exact hsm
  have lbl : bs.length ≤ 3375 := by rw [h6.1, hW.len]; exact hsm
  obtain ⟨c, hca, hcv⟩ := h5.at hc
  have hcm := List.mem_of_getElem? hc
  have hval := hI.val cur hcm
  have below : ∀ e ∈ Qu, Below 999999 e.1 := fun e he => by rw [(hI.val e he).1]; exact below_small hB
  have n1 : p ≠ lm := ne_of ob h2 (fun z => nomatch z)
  have n2 : p ≠ lw := ne_of ob h3 (fun z => nomatch z)
  have n3 : p ≠ kd := ne_of ob h4 (fun z => nomatch z)
  have n4 : lm ≠ kd := ne_of h2 h4 (fun z => nomatch z)
  have n5 : lw ≠ kd := ne_of h3 h4 (fun z => nomatch z)
  let nv := Kh420.stepVector m.abs B cur.1 s
  have step : EvP (tCall (sp_next_costs P w K ad) [] E0 (tCons (tVar 7) (tCons (tOp (rIxL K) (tFld K (tVar 0) "met") (tVar 5)) (tCons (tVar 2) tNil)))) [some (.ref p), some (.ref a), some (.int ((B : Int) + 1)), some (.ref tb), some (.ref kd), some (natV place), some (natV s), some (.ref r), v8] H (RefP fun H' q => VecAt H' q nv) := by
    refine evp_call (evpa_ea (ea_three (ev_var (v := .ref r) (i := 7) rfl) (ev_op (ev_fld (ev_var (v := .ref p) (i := 0) rfl) ob T.cl_Search T.nS1 (sea_met lm lw)) (ev_var (v := natV place) (i := 5) rfl) (rv_ixL (sq_of h2) (atI_nat (v := .ref c) (by rw [List.getElem?_map, hca]; rfl)))) (ev_var (v := .int ((B : Int) + 1)) (i := 2) rfl))) fun vs H1 e1 ev Q1 q1 => ?_
    subst ev
    exact ⟨_, _, _, rfl, r, c, m, s, cur.1, B, rfl, rfl, rfl, ok, hs, hr.mono e1, hcv.mono e1, by rw [hval.1]; exact vecB_len m.abs B _, below cur hcm, by omega, q1⟩
  refine q_asgP step fun v H1 e1 ⟨b, ev, hb⟩ => ?_
  subst ev
  have S1 := hS.mono e1
  obtain ⟨ob1, _⟩ := id S1
  have h2' := e1 _ _ h2
  have h3' := e1 _ _ h3
  have h4' := e1 _ _ h4
  have h5' : All2 (fun b (e : Vec × List Nat) => VecAt H1 b e.1) as Qu := h5.mapR fun _ _ q => q.mono e1
  have hkn := knV_has h5.1 below (step_below (m := m) hB (v := cur.1) (s := s))
  refine ⟨.ref b, rfl, .ref kd, rfl, kd, b, knV Qu as, keyVec nv, rfl, rfl, h4', knV_keys h5', key_vec hb, depth_vec _, _, rfl, ?_⟩
  rw [hkn]
  cases hany : Qu.any fun e => e.1 == Kh420.stepVector m.abs B cur.1 s with
  | true =>
    have e0 : addV m.abs B cur Qu s = Qu := by unfold addV; rw [hany, if_pos rfl]
    have k := k H1 W (some (.ref b))
    rw [e0] at k
    exact k S1 hW (fun b o h _ _ _ => e1 _ _ h)
  | false =>
    have e0 : addV m.abs B cur Qu s = Qu ++ [(nv, cur.2 ++ [s])] := by unfold addV; rw [hany, if_neg Bool.false_ne_true]
    have hkl : (knV Qu as).length ≤ 3375 := by unfold knV; rw [List.length_map, List.length_zip]; omega
    refine ⟨.ref kd, rfl, .ref b, rfl, kd, b, knV Qu as, keyVec nv, rfl, rfl, rfl, h4', knV_keys h5', key_vec hb, depth_vec _, by rw [hkn, hany], sz_lt (by omega), ?_⟩
    have hks := knV_snoc (Q := Qu) h5.1 (nv, cur.2 ++ [s]) b
    rw [← hks]
    generalize hH2 : upd H1 kd (KnO P w kd (knV (Qu ++ [(nv, cur.2 ++ [s])]) (as ++ [b]))) = H2
    have k2 : ∀ c o, H1 c = some o → c ≠ kd → H2 c = some o := fun c o hc hn => by rw [← hH2, upd_ne hn]; exact hc
    have ob2 := k2 _ _ ob1 n3
    refine s_app (v := .ref b) (k2 _ _ h2' n4) (ev_fld (ev_var (v := .ref p) (i := 0) rfl) ob2 T.cl_Search T.nS1 (sea_met lm lw)) (ev_var (v := .ref b) (i := 8) rfl) (by rw [List.length_map]; omega) fun H3 e3 => ?_
    generalize hH4 : upd H3 lm (.lst (as.map V.ref ++ [.ref b])) = H4
    have k4 : ∀ c o, H2 c = some o → c ≠ lm → H4 c = some o := fun c o hc hn => by rw [← hH4, upd_ne hn]; exact e3 _ _ hc
    refine s_appU (ys := wayV ((place : Int), (s : Int))) (k4 _ _ (k2 _ _ h3' n5) (fun z => nml z.symm)) (ev_fld (ev_var (v := .ref p) (i := 0) rfl) (k4 _ _ ob2 n1) T.cl_Search T.nS2 (sea_ways lm lw)) (eu_tup (ea_two (ev_var (v := natV place) (i := 5) rfl) (ev_var (v := natV s) (i := 6) rfl)) (by show 2 ≤ 100000; decide)) (by rw [List.length_map]; omega) fun wb H5 hwb e5 hwt => ?_
    generalize hH6 : upd H5 lw (.lst (bs.map V.ref ++ [.ref wb])) = H6
    have k6 : ∀ c o, H4 c = some o → c ≠ lw → H6 c = some o := fun c o hc hn => by rw [← hH6, upd_ne hn]; exact e5 _ _ hc
    have fr : FrS lm lw kd H1 H6 := fun c o hc m1 m2 m3 => k6 _ _ (k4 _ _ (k2 _ _ hc m3) m1) m2
    have kt : ∀ c xs, H1 c = some (.tup xs) → H6 c = some (.tup xs) := fun c xs hc => fr _ _ hc (ne_of hc h2' (fun z => nomatch z)) (ne_of hc h3' (fun z => nomatch z)) (ne_of hc h4' (fun z => nomatch z))
    have hk := k H6 (W ++ [((place : Int), (s : Int))]) (some (.ref b))
    rw [e0] at hk
    refine hk ⟨fr _ _ ob1 n1 n2 n3, as ++ [b], bs ++ [wb], ?_, ?_, ?_, All2.snoc (h5'.mapR fun c x hc => kt _ _ hc) (kt _ _ hb), All2.snoc (h6.mapR fun c x hc => kt _ _ (e1 _ _ hc)) ?_⟩ (ways_more hW hc nv s) (fun c o hc m1 m2 m3 => fr _ _ (e1 _ _ hc) m1 m2 m3)
    · rw [List.map_append]
      refine k6 _ _ ?_ nml
      rw [← hH4]; exact upd_same
    · rw [List.map_append, ← hH6]; exact upd_same
    · refine k6 _ _ (k4 _ _ ?_ (fun z => n4 z.symm)) (fun z => n5 z.symm)
      rw [← hH2]; exact upd_same
    · rw [← hH6, upd_ne (fun z => ?_)]
      · exact hwt
      · have := e5 _ _ (k4 _ _ (k2 _ _ h3' n5) (fun z => nml z.symm))
        rw [z, this] at hwt
        cases hwt

theorem RowsAt.frame {r : Addr} {M : Kh419.Matrix} (f : ∀ b xs, H b = some (.lst xs) → H' b = some (.lst xs)) (h : RowsAt H r M) : RowsAt H' r M := let ⟨rs, h1, h2⟩ := h; ⟨rs, f _ _ h1, h2.mapR fun _ _ q => f _ _ q⟩
theorem pure_Search_init (T : Txt K mg ad) (vs : List V) (H : Hp) (Q : VK) (E : XK) (h : sp_Search_init P w K ad vs H Q E) : t_Search_init P w K ad { nx := fun _ H' => Q .non H', rt := Q } (start N_Search_init vs) H := by
  obtain ⟨_, _, _, rfl, p, dx, a, m, B, rfl, rfl, rfl, hp, hdx, hA, ok, npa, hB, q⟩ := h
  have k2 := ok.k2
  refine q_asgP (evp_tables (m := m) (a := a) (ea_one (ev_symbols T hA (ev_var (v := .ref a) (i := 1) rfl))) T hA ok rfl (fun _ => rfl) (fun _ => rfl) (fun _ => rfl)) fun v H1 e1 ⟨tb, ts, ev, htb, hts, hrows⟩ => ?_
  subst ev
  have hp1 := e1 _ _ hp
  have hA1 := hA.mono e1
  -- self.met
  have first : EvP (tMeth ad.a "first_costs" (sp_Automaton_first_costs P w K ad) [] E0 (tVar 1) tNil) [some (.ref p), some (.ref a), some (.int ((B : Int) + 1)), some (.ref tb), none, none, none, none, none] H1 (RefP fun H' p => VecAt H' p (Kh420.initialVector m.abs)) := by
    refine aut_meth hA1 (ev_var (v := .ref a) (i := 1) rfl) (by decide +kernel) (evpa_ea ea_nil) fun vs H2 e2 ev Q1 q1 => ?_
    subst ev
    exact ⟨_, rfl, a, m, rfl, hA1.mono e2, ok, q1⟩
  refine q_fldP (fun v G1 G2 e ⟨p1, y, ev, h1, ⟨c, ey, hc⟩, hn⟩ => ⟨p1, y, ev, e _ _ h1, ⟨c, ey, hc.mono e⟩, hn⟩) (evp_lst1 (fun v G1 G2 e ⟨c, ev, hc⟩ => ⟨c, ev, hc.mono e⟩) first) (ev_var (v := .ref p) (i := 0) rfl) hp1 T.cl_Search T.nS1 (by show 0 < 1000; decide) fun v H2 e2 ⟨lm, y, ev, hlm, ⟨c0, ey, hc0⟩, flm⟩ => ?_
  subst ev ey
  have nm : lm ≠ p := fun z => by rw [z, hp1] at flm; cases flm
  generalize hH3 : upd H2 p (.ins ad.s dx (putF "met" (.ref lm) [])) = H3
  have k3 : ∀ b o, H2 b = some o → b ≠ p → H3 b = some o := fun b o hb hn => by rw [← hH3, upd_ne hn]; exact hb
  have hp3 : H3 p = some (.ins ad.s dx (putF "met" (.ref lm) [])) := by rw [← hH3]; exact upd_same
  have fr3 : ∀ b o, H1 b = some o → b ≠ p → H3 b = some o := fun b o hb hn => k3 _ _ (e2 _ _ hb) hn
  -- self.ways
  have way : EvP (tTup (tCons (tUn rNeg (tC (.int 1))) (tCons (tUn rNeg (tC (.int 1))) tNil))) [some (.ref p), some (.ref a), some (.int ((B : Int) + 1)), some (.ref tb), none, none, none, none, none] H3 (fun v H' => ∃ b, v = .ref b ∧ H' b = some (.tup (wayV (-1, -1)))) :=
    evp_elU (eu_tup (ea_two (ev_negN (ev_cN (n := 1))) (ev_negN (ev_cN (n := 1)))) (by show 2 ≤ 100000; decide))
  refine q_fldP (fun v G1 G2 e ⟨p1, y, ev, h1, ⟨c, ey, hc⟩, hn⟩ => ⟨p1, y, ev, e _ _ h1, ⟨c, ey, e _ _ hc⟩, hn⟩) (evp_lst1 (fun v G1 G2 e ⟨c, ev, hc⟩ => ⟨c, ev, e _ _ hc⟩) way) (ev_var (v := .ref p) (i := 0) rfl) hp3 T.cl_Search T.nS2 (by show 1 < 1000; decide) fun v H4 e4 ⟨lw, y, ev, hlw, ⟨b0, ey, hb0⟩, flw⟩ => ?_
  subst ev ey
  rw [sea_new]
  have nw : lw ≠ p := fun z => by rw [z, hp3] at flw; cases flw
  have nml : lm ≠ lw := ne_of_none (k3 _ _ hlm nm) flw
  generalize hH5 : upd H4 p (.ins ad.s dx (seaF lm lw)) = H5
  have k5 : ∀ b o, H4 b = some o → b ≠ p → H5 b = some o := fun b o hb hn => by rw [← hH5, upd_ne hn]; exact hb
  have hp5 : H5 p = some (.ins ad.s dx (seaF lm lw)) := by rw [← hH5]; exact upd_same
  have fr5 : ∀ b o, H1 b = some o → b ≠ p → H5 b = some o := fun b o hb hn => k5 _ _ (e4 _ _ (fr3 b o hb hn)) hn
  have hlm5 : H5 lm = some (.lst [.ref c0]) := k5 _ _ (e4 _ _ (k3 _ _ hlm nm)) nm
  have hlw5 : H5 lw = some (.lst [.ref b0]) := k5 _ _ hlw nw
  have tupk : ∀ c xs, H2 c = some (.tup xs) → H5 c = some (.tup xs) := fun c xs hc => by
    have e0 : c ≠ p := fun z => by rw [z, e2 _ _ hp1] at hc; cases hc
    exact k5 _ _ (e4 _ _ (k3 _ _ hc e0)) e0
  have hc5 : VecAt H5 c0 (Kh420.initialVector m.abs) := tupk _ _ hc0
  have hb5 : H5 b0 = some (.tup (wayV (-1, -1))) := k5 _ _ hb0 (fun z => by rw [z, e4 _ _ hp3] at hb0; cases hb0)
  have flm1 : H1 lm = none := flm
  have flw1 : H1 lw = none := by
    cases z : H1 lw with
    | none => rfl
    | some o => rw [fr3 _ _ z nw] at flw; cases flw
  -- known
  refine q_asgP (P := fun v H' => ∃ kd, v = .ref kd ∧ H5 kd = none ∧ H' kd = some (KnO P w kd (knV [(Kh420.initialVector m.abs, [])] [c0]))) (fun G e0 Q2 q2 => fun kd hkd => ?_) fun v H6 e6 ⟨kd, ev, fkd, hkd⟩ => ?_
  · have e0' : Ex H5 (upd G kd (KnO P w kd [])) := e0.trans (Ex.new hkd)
    have get := ev_op (r := rIxL K) (ta := tFld K (tVar 0) "met") (tb := tC (.int 0)) (σ := [some (.ref p), some (.ref a), some (.int ((B : Int) + 1)), some (.ref tb), none, none, none, none, none]) (ev_fld (ev_var (v := .ref p) (i := 0) rfl) (e0' _ _ hp5) T.cl_Search T.nS1 (sea_met lm lw)) (ev_c (v := .int 0)) (rv_ixL (sq_of (e0' _ _ hlm5)) (v := .ref c0) rfl)
    refine get _ (Ex.refl _) _ fun G2 e7 => ?_
    refine ⟨c0, keyVec (Kh420.initialVector m.abs), rfl, rfl, e7 _ _ upd_same, key_vec (hc5.mono (e0'.trans e7)), depth_vec _, ?_⟩
    refine q2 _ _ ?_ ⟨kd, rfl, fresh_back e0 hkd, upd_same⟩
    exact Ex.mut ((Ex.new hkd).trans e7) hkd
  subst ev
  refine q_asg (v := natV 0) ev_cN fun H7 e7 => ?_
  have e57 := e6.trans e7
  have fkd1 : H1 kd = none := by
    cases z : H1 kd with
    | none => rfl
    | some o =>
      by_cases zz : kd = p
      · rw [zz, hp5] at fkd; cases fkd
      · rw [fr5 _ _ z zz] at fkd; cases fkd
  have hS7 : SeaI P w ad p dx lm lw kd [(Kh420.initialVector m.abs, [])] [(-1, -1)] H7 := by
    refine ⟨e57 _ _ hp5, [c0], [b0], e57 _ _ hlm5, e57 _ _ hlw5, e7 _ _ hkd, ⟨rfl, fun i b x hb hx => ?_⟩, ⟨rfl, fun i b x hb hx => ?_⟩⟩
    · cases i with
      | zero => cases hb; cases hx; exact hc5.mono e57
      | succ i => simp at hb
    · cases i with
      | zero => cases hb; cases hx; exact e57 _ _ hb5
      | succ i => simp at hb
  have fr7 : ∀ b o, H1 b = some o → b ≠ p → H7 b = some o := fun b o hb hn => e57 _ _ (fr5 b o hb hn)
  -- what stood in H1 stands
  have frame : ∀ {G1 G2 : Hp}, (∀ b o, H1 b = some o → b ≠ p → G1 b = some o) → FrS lm lw kd G1 G2 → ∀ b o, H1 b = some o → b ≠ p → G2 b = some o := fun f g b o hb hn => g b o (f b o hb hn) (ne_of_none hb flm1) (ne_of_none hb flw1) (ne_of_none hb fkd1)
  have lists : ∀ {G : Hp}, (∀ b o, H1 b = some o → b ≠ p → G b = some o) → ∀ b xs, H1 b = some (.lst xs) → G b = some (.lst xs) := fun f b xs hb => f b _ hb (fun z => by rw [z, hp1] at hb; cases hb)
  let σw : Nat → Option V → Option V → Option V → L2.St := fun place v6 v7 v8 => [some (.ref p), some (.ref a), some (.int ((B : Int) + 1)), some (.ref tb), some (.ref kd), some (natV place), v6, v7, v8]
  let I : Nat → L2.St → Hp → Prop := fun n σ' H' => ∃ (place : Nat) (Qu : Queue) (W : List (Int × Int)) (v6 v7 v8 : Option V), σ' = σw place v6 v7 v8 ∧ SeaI P w ad p dx lm lw kd Qu W H' ∧ SAt m.abs B Qu place ∧ Ways Qu W ∧ (∀ b o, H1 b = some o → b ≠ p → H' b = some o) ∧ n = (B + 3) ^ 3 + 1 - place
  refine s_while I ((B + 3) ^ 3 + 1 - 0) ⟨0, _, _, none, none, none, rfl, hS7, sat_start m.abs B, ways_start m.abs, fr7, rfl⟩ ?_
  rintro n σ' H8 ⟨place, Qu, W, v6, v7, v8, rfl, hS, hAt, hW, hF, rfl⟩
  have lenM : Ev (tCB (rLenS K) (tCons (tFld K (tVar 0) "met") tNil)) (σw place v6 v7 v8) H8 (natV Qu.length) := by
    obtain ⟨ob, as, bs, h2, h3, h4, h5, h6⟩ := hS
    exact ev_is (ev_len (ev_fld (ev_var (v := .ref p) (i := 0) rfl) ob T.cl_Search T.nS1 (sea_met lm lw)) (sq_of h2)) (by rw [List.length_map, h5.1]; rfl)
  refine ⟨_, et_test (ev_ltN (ev_var (v := natV place) (i := 5) rfl) lenM), fun hb H9 e9 => ?_, fun hb H9 e9 => ?_⟩
  · have hpl : place < Qu.length := of_decide_eq_true hb
    have hlen := sinv_len hAt.inv ok.n3
    have hcur : Qu[place]? = some Qu[place] := List.getElem?_eq_getElem hpl
    generalize Qu[place] = cur at hcur
    refine ⟨fun σ2 H2 => ∃ n', n' < (B + 3) ^ 3 + 1 - place ∧ I n' σ2 H2, fun _ _ h => h, ?_⟩
    have hF9 : ∀ b o, H1 b = some o → b ≠ p → H9 b = some o := fun b o hb hn => e9 _ _ (hF b o hb hn)
    let F : Nat → Queue := fun s => (List.range s).foldl (addV m.abs B cur) Qu
    refine q_forEnum (l := tb) (xs := ts.map V.ref) (ev_var (v := .ref tb) (i := 3) rfl) (sq_of (lists hF9 _ _ htb)) (fun s σ' H' => ∃ (W' : List (Int × Int)) (v6 v7 v8 : Option V), σ' = σw place v6 v7 v8 ∧ SeaI P w ad p dx lm lw kd (F s) W' H' ∧ SInv m.abs B (F s) place ∧ Ways (F s) W' ∧ (∀ b o, H1 b = some o → b ≠ p → H' b = some o))
      (fun G e => ⟨W, v6, v7, v8, rfl, (hS.mono e9).mono e, hAt.inv, hW, fun b o hb hn => e _ _ (hF9 b o hb hn)⟩) (fun s σ' H' _ ⟨_, _, _, _, _, _, _, _, f⟩ => sq_of (lists f _ _ htb)) ?_ ?_
    · rintro s x σ' G Tn hx ⟨W', u6, u7, u8, rfl, hS', hI', hW', hF'⟩ hTn
      obtain ⟨r, hr, rfl⟩ := map_get hx
      have ls := (List.getElem?_eq_some_iff.mp hr).1
      have hsk : s < m.k := by omega
      have eT : Ex G (upd G Tn (.tup [natV s, .ref r])) := Ex.new hTn
      have hF'' : ∀ b o, H1 b = some o → b ≠ p → upd G Tn (.tup [natV s, .ref r]) b = some o := fun b o hb hn => eT _ _ (hF' b o hb hn)
      have hgc : (F s)[place]? = some cur := (fold_grow m.abs B cur (List.range s) Qu).at hcur
      refine sea_turn (P := P) (w := w) T ok hB nml (hS'.mono eT) hW' hI' hsk ((hrows s r hr).frame (lists hF'')) hgc fun G2 W2 v8' hS2 hW2 fr2 => ?_
      have eF : F (s + 1) = addV m.abs B cur (F s) s := by
        show (List.range (s + 1)).foldl _ Qu = _
        rw [range_foldl]
      refine ⟨W2, some (natV s), some (.ref r), v8', rfl, by rw [eF]; exact hS2, ?_, by rw [eF]; exact hW2, frame hF'' fr2⟩
      rw [eF]
      exact (sinv_add hI' hgc hsk).1
    · rintro σ' G ⟨W', u6, u7, u8, rfl, hS', hI', hW', hF'⟩
      rw [List.length_map, hts] at hS' hI' hW'
      refine s_asg (ev_addN (b := 1) (ev_var (v := natV place) (i := 5) rfl) ev_cN) fun G2 e10 => ?_
      exact ⟨(B + 3) ^ 3 + 1 - (place + 1), by omega, place + 1, F m.k, W', u6, u7, u8, rfl, hS'.mono e10, sat_next ok.n3 hAt hcur, hW', fun b o hb hn => e10 _ _ (hF' b o hb hn), rfl⟩
  · have hne : ¬ place < Qu.length := of_decide_eq_false hb
    have eQ := sat_end hAt hne
    rw [eQ] at hS hW
    obtain ⟨ob, as, bs, h2, h3, h4, h5, h6⟩ := hS.mono e9
    exact q H9 W ⟨dx, lm, lw, ob, as, bs, h2, h3, h5, h6⟩ hW fun b o hb hn => e9 _ _ (hF b o (e1 _ _ hb) hn)
end
end Cr

/-! Readings: what the search is for. -/
namespace Cr
open PySem PySem.Spec PyProof.Rows L2 Evl Cw
section
variable {P : Program} {w : World} {K : PySem.W.Frag} {mg : Str → Option Value} {base : Heap} {ad : Ad} {σ : L2.St} {H H' : Hp} {ta tb tc te tv : TE} {a : Addr} {m : Aut} {D : Ends} {tz : TS}
theorem ev_chainI {p q : Int → Int → Bool} {i j k : Int} (ha : Ev ta σ H (.int i)) (hb : Ev tb σ H (.int j)) (hc : Ev tc σ H (.int k)) :
    Ev (tChain (rI0 fun i j => .bl (p i j)) (rI0 fun i j => .bl (q i j)) ta tb tc) σ H (.bl (p i j && q j k)) := fun H1 e Q z =>
  ha H1 e _ fun H2 e2 => hb H2 (e.trans e2) _ fun H3 e3 => ⟨i, j, rfl, rfl, p i j, rfl, by
    cases h : p i j with
    | true => exact hc H3 ((e.trans e2).trans e3) _ fun H4 e4 => ⟨j, k, rfl, rfl, by rw [h] at z; exact z H4 ((e2.trans e3).trans e4)⟩
    | false => rw [h] at z; exact z H3 (e2.trans e3)⟩
theorem for_bind {R : V → Hp → Prop} {g : TG} {tu : TS} (h : EvP te σ H R) (k : ∀ v H1, Ex H H1 → R v H1 → tFor (iList K (tC v)) g tu D σ H1) : tFor (iList K te) g tu D σ H := h H (Ex.refl H) _ fun v H1 e p => k v H1 e p
theorem evp_fldP {f : Str} {R : V → Hp → Prop} (h : EvP ta σ H (fun v H2 => ∃ o C dx fs x, v = .ref o ∧ H2 o = some (.ins C dx fs) ∧ Cls K C ∧ NoAttr K C f ∧ fs.lookup f = some x ∧ R x H2)) : EvP (tFld K ta f) σ H R := fun H1 e Q q =>
  h H1 e _ fun v H2 e2 ⟨o, C, dx, fs, x, h1, h2, h3, h4, h5, h6⟩ => ⟨o, C, dx, fs, x, h1, h2, h3, h4, h5, q x H2 e2 h6⟩
theorem evp_search {B : Nat} (A : AutAt ad H a m) (ok : m.Ok) (hB : B ≤ 12) {tt : TA} (h : EvA tt σ H [.ref a, .int ((B : Int) + 1)]) : EvP (tMake ad.s (sp_Search_init P w K ad) [] E0 tt) σ H (fun v H' => ∃ p W, v = .ref p ∧ SeaAt ad H' p (rowsOf m.abs B) W ∧ Ways (rowsOf m.abs B) W) := by
  refine evp_make (evpa_ea h) fun vs H1 e1 ev x dx hx hd ne Q q => ?_
  subst ev
  have A' : AutAt ad (upd (upd H1 dx (.own x)) x (.ins ad.s dx [])) a m := (A.mono e1).mono ((Ex.new hd).trans (Ex.new (by rw [upd_ne (Ne.symm ne)]; exact hx)))
  have nx : x ≠ a := by
    obtain ⟨d2, wd, h1, _⟩ := A.mono e1
    exact (ne_of_none h1 hx).symm
  refine ⟨_, _, _, rfl, x, dx, a, m, B, rfl, rfl, rfl, upd_same, by rw [upd_ne ne]; exact upd_same, A', ok, nx, hB, fun H2 W s wy fr => q H2 fr ⟨x, W, rfl, s, wy⟩⟩
theorem rows_len {a : Au} {B : Nat} (hn : a.stateCount ≤ 3) (hB : B ≤ 12) : (rowsOf a B).length ≤ 3375 := by
  obtain ⟨j, h, _⟩ := reach_end hn _ _ _ (sat_start a B) (Nat.le_refl _)
  have h1 := sinv_len h.inv hn
  have h2 : (B + 3) ^ 3 ≤ 15 ^ 3 := Nat.pow_le_pow_left (by omega) 3
  omega
theorem ways_len {Q : Queue} {W : List (Int × Int)} (h : Ways Q W) : ∀ (i : Nat) (e : Vec × List Nat), Q[i]? = some e → e.2.length ≤ i := by
  intro i
  induction i using Nat.strongRecOn with
  | _ i ih =>
    intro e he
    rcases h.way i e he with ⟨_, z, _⟩ | ⟨p, s, e', hp, he', hs, _⟩
    · rw [z]; exact Nat.zero_le _
    · have := ih p hp e' he'
      rw [hs, List.length_append, List.length_singleton]; omega
theorem row_cost {a : Au} {B : Nat} (hn : a.stateCount ≤ 3) {e : Vec × List Nat} (he : e ∈ rowsOf a B) {c : Nat} (h : Kh420.vectorCost a e.1 = some c) : c ≤ B + 1 := by
  obtain ⟨q, _⟩ := rows_word_of hn he
  rw [q, vecB_cap, cost_cap] at h
  cases z : Kh420.vectorCost a (vecT a e.2) with
  | none => rw [z] at h; cases h
  | some d =>
    rw [z] at h
    have : min d (B + 1) = c := Option.some.inj h
    omega
theorem row_below {a : Au} {B : Nat} (hn : a.stateCount ≤ 3) (hB : B ≤ 12) {e : Vec × List Nat} (he : e ∈ rowsOf a B) : e.1.length = a.stateCount ∧ Below 999999 e.1 := by
  obtain ⟨q, _⟩ := rows_word_of hn he
  rw [q]
  exact ⟨vecB_len _ _ _, below_small hB⟩
theorem above_enc {b : Nat} {x : Option Nat} (h : ∀ c, x = some c → c ≤ 13) : (decide ((b : Int) < encI x) && decide (encI x < 1000000)) = above b x := by
  cases x with
  | none => show (decide _ && decide ((1000000 : Int) < 1000000)) = false; rw [decide_eq_false (by decide : ¬ (1000000 : Int) < 1000000), Bool.and_false]
  | some c =>
    have := h c rfl
    show (decide ((b : Int) < (c : Int)) && decide ((c : Int) < 1000000)) = decide (b < c)
    rw [decide_eq_true (show (c : Int) < 1000000 by omega), Bool.and_true]
    exact decide_eq_decide.mpr Int.ofNat_lt
theorem ev_acc {c : Addr} {v : Vec} (A : AutAt ad H a m) (ok : m.Ok) (hv : VecAt H c v) (hl : v.length = m.n) (hb : Below 999999 v) (h1 : Ev ta σ H (.ref a)) (h2 : Ev tb σ H (.ref c)) : Ev (tMeth ad.a "accepted_at" (sp_Automaton_accepted_at P w K ad) [] E0 ta (tCons tb tNil)) σ H (encF (Kh420.vectorCost m.abs v)) :=
  aut_methV A h1 (by decide +kernel) (ea_one h2) fun H1 e Q q => ⟨_, _, rfl, a, c, m, v, rfl, rfl, A.mono e, ok, hv.mono e, hl, hb, q⟩
theorem find_at {α : Type} {p : α → Bool} : ∀ {l : List α} {i : Nat} {e : α}, l[i]? = some e → p e = true → (∀ j, j < i → ∀ x, l[j]? = some x → p x = false) → l.find? p = some e
  | [], i, e, h, _, _ => by simp at h
  | x :: l, 0, e, h, hp, _ => by cases h; exact List.find?_cons_of_pos hp
  | x :: l, i + 1, e, h, hp, hn => by
    have := hn 0 (Nat.zero_lt_succ _) x rfl
    rw [List.find?_cons_of_neg (by rw [this]; exact Bool.false_ne_true)]
    exact find_at h hp fun j hj y hy => hn (j + 1) (Nat.succ_lt_succ hj) y hy
theorem pure_first_above (T : Txt K mg ad) (vs : List V) (H : Hp) (Q : VK) (E : XK) (h : sp_first_above P w K ad vs H Q E) : t_first_above P w K ad { nx := fun _ H' => Q .non H', rt := Q } (start N_first_above vs) H := by
  obtain ⟨_, _, rfl, a, m, b, rfl, rfl, A, ok, hb, q⟩ := h
  refine q_asgP (evp_search A ok hb (ea_two (ev_var (i := 0) rfl) (ev_op (ev_var (v := natV b) (i := 1) rfl) (ev_c (v := .int 1)) rv_I0))) fun v H1 e1 ⟨p, W, ev, hS, hW⟩ => ?_
  subst ev
  obtain ⟨dx, lm, lw, ob, as, bs, h2, h3, h4, h5⟩ := id hS
  have hn := ok.n3
  have hlen := rows_len (a := m.abs) (B := b) hn hb
  refine q_forEnum (l := lm) (xs := as.map V.ref) (ev_fld (ev_var (v := .ref p) (i := 2) rfl) ob T.cl_Search T.nS1 (sea_met lm lw)) (sq_of h2) (fun i σ' H' => ∃ v3 v4, σ' = [some (.ref a), some (natV b), some (.ref p), v3, v4] ∧ Ex H1 H' ∧ ∀ j, j < i → ∀ x, (rowsOf m.abs b)[j]? = some x → above b (Kh420.vectorCost m.abs x.1) = false)
    (fun G e => ⟨none, none, rfl, e, fun j hj => by omega⟩) (fun i σ' H' _ ⟨_, _, _, e, _⟩ => sq_of (e _ _ h2)) ?_ ?_
  · rintro i x σ' G Tn hx ⟨v3, v4, rfl, e2, hN⟩ hTn
    obtain ⟨c, hc, rfl⟩ := map_get hx
    have li := (List.getElem?_eq_some_iff.mp hc).1
    have e3 : Ex H1 (upd G Tn (.tup [natV i, .ref c])) := e2.trans (Ex.new hTn)
    obtain ⟨e, he⟩ : ∃ e, (rowsOf m.abs b)[i]? = some e := ⟨_, List.getElem?_eq_getElem (by rw [← h4.1]; exact li)⟩
    have hm := List.mem_of_getElem? he
    have hv := h4.2 i c e hc he
    obtain ⟨l1, b1⟩ := row_below hn hb hm
    refine s_when (et_is (et_test (ev_chainI (p := fun i j => decide (i < j)) (q := fun i j => decide (i < j)) (ev_var (v := natV b) (i := 1) rfl) (ev_acc ((A.mono e1).mono e3) ok (hv.mono e3) l1 b1 (ev_var (v := .ref a) (i := 0) rfl) (ev_var (v := .ref c) (i := 4) rfl)) ev_c)) (above_enc fun d hd => by have := row_cost hn hm hd; omega)) (fun hab H2 e4 => ?_) fun hab H2 e4 => ?_
    · refine s_retP (P := RefP fun H' q => H' q = some (.lst (intsV e.2))) (evp_meth (o := p) (ev_var (i := 2) rfl) ((e3.trans e4) _ _ ob) ((lk_past (by decide +kernel)).trans ((lk_past (by decide +kernel)).trans rfl)) (evpa_ea (ea_one (ev_var (v := natV i) (i := 3) rfl))) fun vs H3 e5 ev Q1 q1 => ?_) fun v H3 e5 ⟨r, ev, hr⟩ => ?_
      · subst ev
        exact ⟨_, _, rfl, p, rowsOf m.abs b, W, i, e, rfl, rfl, hS.mono ((e3.trans e4).trans e5), hW, by omega, he, q1⟩
      · refine q v H3 (((e1.trans e3).trans e4).trans e5) ?_
        have fe : Kh420.firstWordAbove m.abs b = some e.2 := by
          rw [first_eq, find_at he hab hN]; rfl
        rw [fe]
        exact ⟨r, ev, hr, by have := ways_len hW i e he; have := (List.getElem?_eq_some_iff.mp he).1; omega⟩
    · refine ⟨some (natV i), some (.ref c), rfl, e3.trans e4, fun j hj x hjx => ?_⟩
      by_cases z : j = i
      · subst z; rw [he] at hjx; cases hjx; exact hab
      · exact hN j (by omega) x hjx
  · rintro σ' G ⟨v3, v4, rfl, e2, hN⟩
    refine s_ret ev_c fun H2 e3 => q _ H2 ((e1.trans e2).trans e3) ?_
    have fe : Kh420.firstWordAbove m.abs b = none := by
      rw [first_eq, Option.map_eq_none_iff, List.find?_eq_none]
      intro x hx
      obtain ⟨j, hj⟩ := List.getElem?_of_mem hx
      have lj := (List.getElem?_eq_some_iff.mp hj).1
      rw [hN j (by rw [List.length_map, h4.1]; exact lj) x hj]
      exact Bool.false_ne_true
    rw [fe]
theorem pure_greatest_cost (T : Txt K mg ad) (vs : List V) (H : Hp) (Q : VK) (E : XK) (h : sp_greatest_cost P w K ad vs H Q E) : t_greatest_cost P w K ad { nx := fun _ H' => Q .non H', rt := Q } (start N_greatest_cost vs) H := by
  obtain ⟨_, _, rfl, a, m, rfl, rfl, A, ok, q⟩ := h
  have hn := ok.n3
  have hlen := rows_len (a := m.abs) (B := 12) hn (Nat.le_refl _)
  refine q_asg (v := natV 0) ev_cN fun H1 e1 => ?_
  let st : Nat → Vec × List Nat → Nat := fun g e => match Kh420.vectorCost m.abs e.1 with | none => g | some c => max g c
  refine for_bind (D := { nx := _, rt := Q }) (R := fun v H2 => ∃ lm as, v = .ref lm ∧ H2 lm = some (.lst (as.map V.ref)) ∧ All2 (fun b (e : Vec × List Nat) => VecAt H2 b e.1) as (rowsOf m.abs 12))
    (evp_fldP (evp_weak (evp_search (B := 12) (A.mono e1) ok (Nat.le_refl _) (ea_two (ev_var (v := .ref a) (i := 0) rfl) (ev_var (v := .int 13) (i := 1) rfl))) fun v H2 e2 ⟨p, W, ev, hS, hW⟩ => ?_)) fun v H2 e2 ⟨lm, as, ev, h2, h4⟩ => ?_
  · obtain ⟨dx, lm, lw, ob, as, bs, h2, h3, h4, h5⟩ := id hS
    exact ⟨p, ad.s, dx, seaF lm lw, .ref lm, ev, ob, T.cl_Search, T.nS1, sea_met lm lw, lm, as, rfl, h2, h4⟩
  · subst ev
    have eA := (A.mono e1).mono e2
    refine s_forLn (a := lm) (xs := as.map V.ref) ev_c (sq_of h2) (fun i σ' H' => ∃ v3 v4, σ' = [some (.ref a), some (.int 13), some (natV (((rowsOf m.abs 12).take i).foldl st 0)), v3, v4] ∧ Ex H2 H')
      (fun G e => ⟨none, none, rfl, e⟩) (fun i σ' H' _ ⟨_, _, _, e⟩ => sq_of (e _ _ h2)) ?_ ?_
    · rintro i x σ' G hx ⟨v3, v4, rfl, e3⟩
      obtain ⟨c, hc, rfl⟩ := map_get hx
      have li := (List.getElem?_eq_some_iff.mp hc).1
      obtain ⟨e, he⟩ : ∃ e, (rowsOf m.abs 12)[i]? = some e := ⟨_, List.getElem?_eq_getElem (by rw [← h4.1]; exact li)⟩
      have hm := List.mem_of_getElem? he
      have hv := h4.2 i c e hc he
      obtain ⟨l1, b1⟩ := row_below hn (Nat.le_refl 12) hm
      have tk : ((rowsOf m.abs 12).take (i + 1)).foldl st 0 = st (((rowsOf m.abs 12).take i).foldl st 0) e := by rw [take_snoc he, List.foldl_append]; rfl
      refine q_asg (ev_acc (eA.mono e3) ok (hv.mono e3) l1 b1 (ev_var (v := .ref a) (i := 0) rfl) (ev_var (v := .ref c) (i := 3) rfl)) fun H3 e4 => ?_
      cases z : Kh420.vectorCost m.abs e.1 with
      | none =>
        refine s_when (b := false) (et_test (ev_is (ev_op (ev_var (v := .int 1000000) (i := 4) rfl) (ev_c (v := .int 1000000)) rv_I0) rfl)) (fun h => nomatch h) fun _ H4 e5 => ?_
        refine ⟨some (.ref c), some (.int 1000000), ?_, (e3.trans e4).trans e5⟩
        rw [tk]; show _ = [_, _, some (natV (match Kh420.vectorCost m.abs e.1 with | none => _ | some c => _)), _, _]
        rw [z]; rfl
      | some d =>
        have hd := row_cost hn hm z
        refine s_when (b := true) (et_test (ev_is (ev_op (ev_var (v := natV d) (i := 4) rfl) (ev_c (v := .int 1000000)) rv_I0) (by show V.bl (decide ((d : Int) < 1000000)) = _; rw [decide_eq_true (by omega)]))) (fun _ H4 e5 => ?_) (fun h => nomatch h)
        refine s_asg (v := natV (max (((rowsOf m.abs 12).take i).foldl st 0) d)) (ev_cb (ea_two (ev_var (v := natV (((rowsOf m.abs 12).take i).foldl st 0)) (i := 2) rfl) (ev_var (v := natV d) (i := 4) rfl)) fun H5 e6 Q1 q1 => ⟨_, _, rfl, by rw [show max ((((rowsOf m.abs 12).take i).foldl st 0 : Nat) : Int) (d : Int) = ((max (((rowsOf m.abs 12).take i).foldl st 0) d : Nat) : Int) by omega]; exact q1 H5 (Ex.refl _)⟩) fun H5 e6 => ?_
        refine ⟨some (.ref c), some (natV d), ?_, ((e3.trans e4).trans e5).trans e6⟩
        rw [tk]; show _ = [_, _, some (natV (match Kh420.vectorCost m.abs e.1 with | none => _ | some c => _)), _, _]
        rw [z]; rfl
    · rintro σ' G ⟨v3, v4, rfl, e3⟩
      refine s_ret (v := natV (greatest m.abs (rowsOf m.abs 12))) (ev_var ?_) fun H3 e4 => q H3 (((e1.trans e2).trans e3).trans e4)
      rw [List.length_map, h4.1, List.take_length]; rfl
end
end Cr

/-! Readings: the module, what changes the automaton. -/
namespace Cr
open PySem PySem.Spec PyProof.Rows L2 Evl Cw
section
variable {P : Program} {w : World} {K : PySem.W.Frag} {mg : Str → Option Value} {base : Heap} {ad : Ad} {σ : L2.St} {H H' : Hp} {ta tb tc te tv : TE} {a : Addr} {m : Aut} {D : Ends} {tz : TS} {Q : VK} {md : Addr}
/-! ### what stays -/
theorem Keep.ex (e : Ex H H') : Keep H H' := fun b o h _ => e b o h
theorem Keep.trans {H1 : Hp} (h : Keep H H1) (k : Keep H1 H') : Keep H H' := fun b o e p => k b o (h b o e p) p
theorem Keep.upd {p : Addr} {o u : HO} (h : H p = some o) (ho : plainO o = false) : Keep H (L2.upd H p u) := fun b o' e q => by
  by_cases z : b = p
  · subst z; rw [h] at e; cases e; rw [ho] at q; cases q
  · rw [upd_ne z]; exact e
def modF (v : V) : List (Str × V) := [("automaton", v)]
theorem mod_aut {dx dx2 wd : Addr} {v : V} {C : Addr} (h : HO.ins C dx (modF v) = HO.ins ad.a dx2 (autF m wd)) : False := by
  injection h with _ _ h
  exact absurd (congrArg List.length h) (by show ¬ (1 = 5); decide)
theorem of_not {b : Bool} (h : (!b) = true) : b = false := by
  cases b with
  | false => rfl
  | true => cases h
theorem mod_auto (v : V) : (modF v).lookup ("automaton" : Str) = some v := lk_here
theorem mod_no {f : Str} {v : V} (h : (f == ("automaton" : Str)) = false) : (modF v).lookup f = none := (lk_past h).trans rfl
theorem ModAt.mono {st : Option Aut} (e : Ex H H') (h : ModAt ad H md st) : ModAt ad H' md st := by
  obtain ⟨dx, h⟩ := h
  cases st with
  | none => exact ⟨dx, e _ _ h⟩
  | some m => exact ⟨dx, h.1, let ⟨a, h1, h2⟩ := h.2; ⟨a, e _ _ h1, h2.mono e⟩⟩
/-- the module's object -/
theorem ModAt.obj {st : Option Aut} (h : ModAt ad H md st) : ∃ dx v, H md = some (.ins ad.o dx (modF v)) ∧ (v = .non ↔ st = none) := by
  obtain ⟨dx, h⟩ := h
  cases st with
  | none => exact ⟨dx, .non, h, ⟨fun _ => rfl, fun _ => rfl⟩⟩
  | some m =>
    obtain ⟨_, a, h1, _⟩ := h
    exact ⟨dx, .ref a, h1, ⟨fun z => (nomatch z), fun z => (nomatch z)⟩⟩
theorem Doing.same {c : Kh420.Call} (d : Doing ad H md m c Q) (M : ModAt ad H md (some m)) (e1 : (Kh420.apply m.abs c).1 = m.abs) {l : List Int} (he : resV (Kh420.apply m.abs c).2 = l) (e : Ex H H') {p : Addr} (hn : H p = none) (hp : NewI H' p l) : Q (.ref p) H' :=
  d H' p m (Keep.ex e) hn (by rw [he]; exact hp) (M.mono e) e1.symm
def NewP (H0 : Hp) (l : List Int) : V → Hp → Prop := RefF H0 fun H' p => NewI H' p l
theorem evp_elF {xs : List V} (h : EvL te σ H xs) : EvP te σ H (RefF H fun H' p => H' p = some (.lst xs)) := fun H1 e Q q => h H1 e _ fun p H2 hn e2 hp => q _ H2 e2 ⟨p, rfl, fresh_back e hn, hp⟩
theorem fresh_upd {a p : Addr} {o : HO} (h : upd H a o p = none) : H p = none := by
  by_cases z : p = a
  · subst z; rw [upd_same] at h; cases h
  · rw [upd_ne z] at h; exact h
theorem evp_one {x : Int} (h : Ev te σ H (.int x)) : EvP (tLst (tCons te tNil)) σ H (NewP H [x]) := evp_elF (el_lst (ea_one h) (by show 1 ≤ 100000; decide))
theorem ev_m {i : Int} : Ev (tUn rNeg (tC (.int i))) σ H (.int (-i)) := ev_un ev_c ru_neg
/-- return [x] -/
theorem s_one {x : Int} (h : Ev te σ H (.int x)) (k : ∀ p H1, H p = none → Ex H H1 → NewI H1 p [x] → D.rt (.ref p) H1) : tRet (tLst (tCons te tNil)) D σ H := s_retP (evp_one h) fun v H1 e ⟨p, ev, hn, hp⟩ => by
  subst ev
  exact k p H1 hn e hp
theorem ev_auto (T : Txt K mg ad) {dx : Addr} {v : V} (h : H md = some (.ins ad.o dx (modF v))) (h0 : Ev ta σ H (.ref md)) : Ev (tFld K ta "automaton") σ H v := ev_fld h0 h T.cl_Module T.nO1 (mod_auto v)
theorem pure_Module_init (T : Txt K mg ad) (vs : List V) (H : Hp) (Q : VK) (E : XK) (h : sp_Module_init P w K ad vs H Q E) : t_Module_init P w K ad { nx := fun _ H' => Q .non H', rt := Q } (start N_Module_init vs) H := by
  obtain ⟨_, rfl, p, dx, rfl, hp, hdx, q⟩ := h
  exact ⟨_, rfl, p, ad.o, dx, [], rfl, hp, T.cl_Module, T.nO1, (by show 0 < 1000; decide), q _ ⟨dx, upd_same⟩ fun b o hb hn => by rw [upd_ne hn]; exact hb⟩
/-! ### create -/
theorem ev_inN {i j : Int} {n : Nat} : Ev (tVar 0) σ H .non → Ev (tVar 0) σ H .non := id
theorem create_bad {st : Option Au} {n k : Nat} (h : ¬ (1 ≤ n ∧ n ≤ 3) ∨ ¬ (1 ≤ k ∧ k ≤ 2)) : Kh420.execute st (.create n k) = (st, Kh420.single (-22)) := by
  have e : (Kh419.execute none (.create n k)).1 = none := by
    show (ite _ _ _ : Option Kh419.Automaton × Kh419.Result).1 = _
    rw [if_pos (by show n < 1 ∨ 3 < n ∨ k < 1 ∨ 2 < k; omega)]
  show (match (Kh419.execute none (.create n k)).1 with | none => (st, Kh420.single (-22)) | some a => (some a, Kh420.single 0)) = _
  rw [e]
theorem create_good {st : Option Au} {n k : Nat} (h1 : 1 ≤ n) (h3 : n ≤ 3) (k1 : 1 ≤ k) (k2 : k ≤ 2) : Kh420.execute st (.create n k) = (some (fresh n k).abs, Kh420.single 0) := by
  have e : (Kh419.execute none (.create n k)).1 = some (fresh n k).abs := by
    show (ite _ _ _ : Option Kh419.Automaton × Kh419.Result).1 = _
    rw [if_neg (by show ¬ (n < 1 ∨ 3 < n ∨ k < 1 ∨ 2 < k); omega), fresh_abs h1 h3]
  show (match (Kh419.execute none (.create n k)).1 with | none => (st, Kh420.single (-22)) | some a => (some a, Kh420.single 0)) = _
  rw [e]
theorem et_within {n hi : Nat} {h : Int} (eh : h = (hi : Int)) (hv : Ev ta σ H (natV n)) : EvT (tNot (tTest (tChain rLe rLe (tC (.int 1)) ta (tC (.int h))))) σ H (!decide (1 ≤ n ∧ n ≤ hi)) :=
  et_not (et_is (et_test (ev_chainI (p := fun i j => decide (i ≤ j)) (q := fun i j => decide (i ≤ j)) (ev_c (v := .int 1)) hv (ev_c (v := .int h)))) (by
    subst eh
    rw [Bool.eq_iff_iff]
    simp only [Bool.and_eq_true, decide_eq_true_eq]
    omega))
theorem evp_new {n k : Nat} {tt : TA} (h : EvA tt σ H [natV n, natV k]) : EvP (tMake ad.a (sp_Automaton_init P w K ad) [] E0 tt) σ H (RefP fun H' p => AutAt ad H' p (fresh n k)) := by
  refine evp_make (evpa_ea h) fun vs H1 e1 ev x dx hx hd ne Q q => ?_
  subst ev
  exact ⟨_, _, _, rfl, x, dx, n, k, rfl, rfl, rfl, upd_same, by rw [upd_ne ne]; exact upd_same, fun H2 hA fr => q H2 fr ⟨x, rfl, hA⟩⟩
theorem AutAt.upd_mod {dx : Addr} {v u : V} (hm : H md = some (.ins ad.o dx (modF v))) (A : AutAt ad H a m) : AutAt ad (upd H md (.ins ad.o dx (modF u))) a m := by
  obtain ⟨d, wd, h1, h2⟩ := A
  refine ⟨d, wd, ?_, ?_⟩
  · rw [upd_ne (fun z => by rw [z, hm] at h1; exact mod_aut (Option.some.inj h1))]; exact h1
  · rw [upd_ne (fun z => by rw [z, hm] at h2; cases h2)]; exact h2
theorem pure_Module_create (T : Txt K mg ad) (vs : List V) (H : Hp) (Q : VK) (E : XK) (h : sp_Module_create P w K ad vs H Q E) : t_Module_create P w K ad { nx := fun _ H' => Q .non H', rt := Q } (start N_Module_create vs) H := by
  obtain ⟨_, _, _, rfl, md, st, n, k, rfl, rfl, rfl, M, q⟩ := h
  refine q_when (et_or (et_within (hi := 3) rfl (ev_var (v := natV n) (i := 1) rfl)) fun _ => et_within (hi := 2) rfl (ev_var (v := natV k) (i := 2) rfl)) (fun hb H1 e1 => ?_) fun hb H1 e1 => ?_
  · have bad : ¬ (1 ≤ n ∧ n ≤ 3) ∨ ¬ (1 ≤ k ∧ k ≤ 2) := by
      simp only [Bool.or_eq_true, Bool.not_eq_true', decide_eq_false_iff_not] at hb
      exact hb
    rw [create_bad bad] at q
    exact s_one ev_m fun p H2 hn e2 hp => q H2 p st (Keep.ex (e1.trans e2)) (fresh_back e1 hn) hp (M.mono (e1.trans e2)) rfl
  · have good : (1 ≤ n ∧ n ≤ 3) ∧ (1 ≤ k ∧ k ≤ 2) := by simpa using hb
    obtain ⟨⟨n1, n3⟩, k1, k2⟩ := good
    rw [create_good n1 n3 k1 k2] at q
    obtain ⟨dx, v, ob, _⟩ := (M.mono e1).obj
    refine q_fldP (fun v G1 G2 e ⟨p, ev, h⟩ => ⟨p, ev, h.mono e⟩) (evp_new (ea_two (ev_var (v := natV n) (i := 1) rfl) (ev_var (v := natV k) (i := 2) rfl))) (ev_var (v := .ref md) (i := 0) rfl) ob T.cl_Module T.nO1 (by show 1 < 1000; decide) fun v H2 e2 ⟨b, ev, hA⟩ => ?_
    subst ev
    have ob2 := e2 _ _ ob
    have hp : putF "automaton" (.ref b) (modF v) = modF (.ref b) := put_here
    rw [hp]
    have hA2 := hA.upd_mod (u := .ref b) ob2
    refine s_one (x := 0) ev_c fun p H3 hn e3 hp => q H3 p (some (fresh n k)) (((Keep.ex (e1.trans e2)).trans (Keep.upd ob2 rfl)).trans (Keep.ex e3)) (fresh_back (e1.trans e2) (fresh_upd hn)) hp ⟨dx, fresh_ok n1 n3 k1 k2, b, e3 _ _ upd_same, hA2.mono e3⟩ rfl
/-! ### transitions -/
theorem trK_inj {t u : Tr} : trK t = trK u ↔ t = u := by
  constructor
  · intro e
    unfold trK at e
    injection e with e1 e2
    injection e2 with e2 e3
    injection e3 with e3 _
    injection e1 with e1
    injection e2 with e2
    injection e3 with e3
    obtain ⟨a, b, c⟩ := t
    obtain ⟨a', b', c'⟩ := u
    have e1 : (a : Int) = a' := e1
    have e2 : (b : Int) = b' := e2
    have e3 : (c : Int) = c' := e3
    rw [Int.ofNat.inj e1, Int.ofNat.inj e2, Int.ofNat.inj e3]
  · intro e; rw [e]
theorem kv_any (l : List (Tr × Nat)) (t : Tr) : ((kvV l).any fun kv => decide (kv.1 = trK t)) = (l.any fun p => decide (p.1 = t)) := by
  unfold kvV
  rw [List.any_map]
  congr 1
  funext p
  exact decide_eq_decide.mpr trK_inj
theorem putK_kv (l : List (Tr × Nat)) (t : Tr) (c : Nat) : putK (kvV l) (trK t) (natV c) = kvV (put l t c) := by
  unfold putK put
  rw [kv_any]
  split
  · unfold kvV
    rw [List.map_map, List.map_map]
    apply List.map_congr_left
    intro p _
    show (if trK p.1 = trK t then (trK p.1, natV c) else (trK p.1, natV p.2)) = _
    by_cases z : p.1 = t
    · rw [if_pos (trK_inj.mpr z)]
      show _ = (trK (if p.1 = t then (p.1, c) else p).1, natV (if p.1 = t then (p.1, c) else p).2)
      rw [if_pos z]
    · rw [if_neg (fun y => z (trK_inj.mp y))]
      show _ = (trK (if p.1 = t then (p.1, c) else p).1, natV (if p.1 = t then (p.1, c) else p).2)
      rw [if_neg z]
  · unfold kvV
    rw [List.map_append]; rfl
theorem dropK_kv (l : List (Tr × Nat)) (t : Tr) : dropK (kvV l) (trK t) = kvV (drop l t) := by
  unfold dropK drop kvV
  rw [List.filter_map]
  congr 1
  apply List.filter_congr
  intro p _
  show decide (trK p.1 ≠ trK t) = decide (p.1 ≠ t)
  exact decide_eq_decide.mpr (not_congr trK_inj)
theorem kvs_len (ok : m.Ok) : m.kvs.length ≤ 18 := by
  have h := nodup_len (l := m.kvs.map (·.1)) (S := Cw.triples m.k m.n) ok.nd (fun t ht => by
    obtain ⟨p, hp, rfl⟩ := List.mem_map.mp ht
    have := ok.keys p hp
    exact triples_mem this.1 this.2.1 this.2.2.1)
  rw [List.length_map] at h
  have t : (Cw.triples m.k m.n).length = m.k * (m.n * m.n) := by
    unfold Cw.triples
    rw [len_flatMap _ (m.n * m.n) (fun x => by rw [len_flatMap _ m.n (fun y => by rw [List.length_map, List.length_range]), List.length_range]), List.length_range]
  rw [t] at h
  have h1 := ok.n3
  have h2 := ok.k2
  have h3 : m.n * m.n ≤ 3 * 3 := Nat.mul_le_mul h1 h1
  have h4 : m.k * (m.n * m.n) ≤ 2 * (3 * 3) := Nat.mul_le_mul h2 h3
  omega
theorem ev_key {b : Addr} {s i j : Nat} (hb : H b = some (.tup [natV s, natV i, natV j])) (h1 : Ev ta σ H (.ref b)) : Ev (tOp (rIxT K) ta (tC (.int 0))) σ H (natV s) ∧ Ev (tOp (rIxT K) ta (tC (.int 1))) σ H (natV i) ∧ Ev (tOp (rIxT K) ta (tC (.int 2))) σ H (natV j) :=
  ⟨ev_op h1 ev_c (rv_ixT (st_of hb) rfl), ev_op h1 ev_c (rv_ixT (st_of hb) rfl), ev_op h1 ev_c (rv_ixT (st_of hb) rfl)⟩
theorem ev_knows {s i j : Nat} {t1 t2 t3 : TE} (A : AutAt ad H a m) (h0 : Ev ta σ H (.ref a)) (h1 : Ev t1 σ H (natV s)) (h2 : Ev t2 σ H (natV i)) (h3 : Ev t3 σ H (natV j)) :
    Ev (tMeth ad.a "knows" (sp_Automaton_knows P w K ad) [] E0 ta (tCons t1 (tCons t2 (tCons t3 tNil)))) σ H (.bl (decide (s < m.k) && (decide (i < m.n) && decide (j < m.n)))) :=
  aut_methV A h0 (by decide +kernel) (ea_three h1 h2 h3) fun H1 e Q q => ⟨_, _, _, _, rfl, a, m, s, i, j, rfl, rfl, rfl, rfl, A.mono e, q⟩
theorem ev_weight {s i j : Nat} {t1 t2 t3 : TE} (A : AutAt ad H a m) (h0 : Ev ta σ H (.ref a)) (h1 : Ev t1 σ H (natV s)) (h2 : Ev t2 σ H (natV i)) (h3 : Ev t3 σ H (natV j)) :
    Ev (tMeth ad.a "weight_of" (sp_Automaton_weight_of P w K ad) [] E0 ta (tCons t1 (tCons t2 (tCons t3 tNil)))) σ H (wV (look m.kvs (s, i, j))) :=
  aut_methV A h0 (by decide +kernel) (ea_three h1 h2 h3) fun H1 e Q q => ⟨_, _, _, _, rfl, a, m, s, i, j, rfl, rfl, rfl, rfl, A.mono e, q⟩
theorem index_is (m : Aut) (s i j : Nat) : Kh419.isTransitionIndex m.abs s i j = (decide (s < m.k) && (decide (i < m.n) && decide (j < m.n))) := rfl
theorem set_out {s i j c : Nat} (h : Kh419.isTransitionIndex m.abs s i j = false) : Kh420.apply m.abs (.setTransition s i j c) = (m.abs, Kh420.single (-2)) := by
  show (let r := (ite _ _ _ : Kh419.Automaton × Kh419.Result); (r.1, (⟨r.2.status, r.2.values⟩ : Kh420.Result))) = _
  rw [if_pos h]; rfl
theorem set_big {s i j c : Nat} (h : Kh419.isTransitionIndex m.abs s i j = true) (hc : 9 < c) : Kh420.apply m.abs (.setTransition s i j c) = (m.abs, Kh420.single (-22)) := by
  show (let r := (ite _ _ (ite _ _ _) : Kh419.Automaton × Kh419.Result); (r.1, (⟨r.2.status, r.2.values⟩ : Kh420.Result))) = _
  rw [h, if_neg (fun z => nomatch z), if_pos (show Kh419.maxWeight < c from hc)]; rfl
theorem set_in {s i j c : Nat} (hs : s < m.k) (hi : i < m.n) (hj : j < m.n) (hc : ¬ 9 < c) : Kh420.apply m.abs (.setTransition s i j c) = (({ m with kvs := put m.kvs (s, i, j) c } : Aut).abs, Kh420.single (Kh419.encodeWeight (look m.kvs (s, i, j)) + 1)) := by
  have h : Kh419.isTransitionIndex m.abs s i j = true := by rw [index_is]; simp [hs, hi, hj]
  show (let r := (ite _ _ (ite _ _ _) : Kh419.Automaton × Kh419.Result); (r.1, (⟨r.2.status, r.2.values⟩ : Kh420.Result))) = _
  rw [h, if_neg (fun z => nomatch z), if_neg (show ¬ Kh419.maxWeight < c from hc), T_eq hs, entry_T hi hj, with_put hs hi hj]
  rfl
/-- the automaton's dict of weights is another -/
theorem ModAt.upd_kvs {dx dx2 wd : Addr} {kvs' : List (Tr × Nat)} (ob : H md = some (.ins ad.o dx (modF (.ref a)))) (h1 : H a = some (.ins ad.a dx2 (autF m wd))) (h2 : H wd = some (.dT (kvV m.kvs))) (ok : ({ m with kvs := kvs' } : Aut).Ok) :
    ModAt ad (upd H wd (.dT (kvV kvs'))) md (some { m with kvs := kvs' }) :=
  ⟨dx, ok, a, by rw [upd_ne (fun z => by rw [z, h2] at ob; cases ob)]; exact ob, dx2, wd, by rw [upd_ne (fun z => by rw [z, h2] at h1; cases h1)]; exact h1, upd_same⟩
theorem pure_Module_set_transition (T : Txt K mg ad) (vs : List V) (H : Hp) (Q : VK) (E : XK) (h : sp_Module_set_transition P w K ad vs H Q E) : t_Module_set_transition P w K ad { nx := fun _ H' => Q .non H', rt := Q } (start N_Module_set_transition vs) H := by
  obtain ⟨_, _, _, rfl, md, b, m, s, i, j, c, rfl, rfl, rfl, M, hb, d⟩ := h
  obtain ⟨dx, ok, a, ob, A⟩ := id M
  refine q_asg (ev_auto T ob (ev_var (v := .ref md) (i := 0) rfl)) fun H1 e1 => ?_
  obtain ⟨k1, k2, k3⟩ := ev_key (K := K) (σ := [some (.ref md), some (.ref b), some (natV c), some (.ref a), none]) (e1 _ _ hb) (ev_var (v := .ref b) (i := 1) rfl)
  refine q_when (et_not (et_B (ev_knows (A.mono e1) (ev_var (v := .ref a) (i := 3) rfl) k1 k2 k3))) (fun hk H2 e2 => ?_) fun hk H2 e2 => ?_
  · have hk : Kh419.isTransitionIndex m.abs s i j = false := of_not hk
    exact s_one ev_m fun p H3 hn e3 hp => d.same M (by rw [set_out hk]) (by rw [set_out hk]; rfl) ((e1.trans e2).trans e3) (fresh_back (e1.trans e2) hn) hp
  · have hk : Kh419.isTransitionIndex m.abs s i j = true := by rw [index_is]; simpa using hk
    have hk' : s < m.k ∧ i < m.n ∧ j < m.n := by rw [index_is] at hk; simpa using hk
    obtain ⟨hs, hi, hj⟩ := hk'
    refine q_when (et_test (ev_gtN (b := 9) (ev_var (v := natV c) (i := 2) rfl) ev_cN)) (fun hc H3 e3 => ?_) fun hc H3 e3 => ?_
    · have hc := of_decide_eq_true hc
      exact s_one ev_m fun p H4 hn e4 hp => d.same M (by rw [set_big hk hc]) (by rw [set_big hk hc]; rfl) (((e1.trans e2).trans e3).trans e4) (fresh_back ((e1.trans e2).trans e3) hn) hp
    · have hc := of_decide_eq_false hc
      have e13 := (e1.trans e2).trans e3
      refine q_asg (ev_op (ev_weight (A.mono e13) (ev_var (v := .ref a) (i := 3) rfl) (k1.mono (e2.trans e3)) (k2.mono (e2.trans e3)) (k3.mono (e2.trans e3))) (ev_c (v := .int 1)) rv_I0) fun H4 e4 => ?_
      have e14 := e13.trans e4
      obtain ⟨dx2, wd, A1, A2⟩ := A.mono e14
      refine ⟨_, rfl, .ref a, rfl, a, ad.a, dx2, autF m wd, .ref wd, rfl, A1, T.cl_Automaton, T.nA3, aut_weights m wd, .ref b, rfl, wd, _, rfl, DPut.t (k := trK (s, i, j)) A2 (e14 _ _ hb) (by unfold kvV; rw [List.length_map]; have := kvs_len ok; exact sz_lt (by omega)), ?_⟩
      rw [putK_kv]
      have M' := ModAt.upd_kvs (e14 _ _ ob) A1 A2 (ok_put ok hs hi hj (w := c) (by omega))
      refine s_one (x := Kh419.encodeWeight (look m.kvs (s, i, j)) + 1) (ev_var rfl) fun p H5 hn e5 hp => d H5 p _ (((Keep.ex e14).trans (Keep.upd A2 rfl)).trans (Keep.ex e5)) (fresh_back e14 (fresh_upd hn)) ?_ (M'.mono e5) ?_
      · rw [set_in hs hi hj hc]; exact hp
      · rw [set_in hs hi hj hc]
theorem rem_out {s i j : Nat} (h : Kh419.isTransitionIndex m.abs s i j = false) : Kh420.apply m.abs (.removeTransition s i j) = (m.abs, Kh420.single (-2)) := by
  show (let r := (ite _ _ _ : Kh419.Automaton × Kh419.Result); (r.1, (⟨r.2.status, r.2.values⟩ : Kh420.Result))) = _
  rw [if_pos h]; rfl
theorem rem_none {s i j : Nat} (hs : s < m.k) (hi : i < m.n) (hj : j < m.n) (hn : look m.kvs (s, i, j) = none) : Kh420.apply m.abs (.removeTransition s i j) = (m.abs, Kh420.single (-6)) := by
  have h : Kh419.isTransitionIndex m.abs s i j = true := by rw [index_is]; simp [hs, hi, hj]
  show (let r := (ite _ _ (ite _ _ _) : Kh419.Automaton × Kh419.Result); (r.1, (⟨r.2.status, r.2.values⟩ : Kh420.Result))) = _
  rw [h, if_neg (fun z => nomatch z), T_eq hs, entry_T hi hj, hn, if_pos (show (none : Option Nat).isNone = true from rfl)]; rfl
theorem rem_some {s i j c : Nat} (hs : s < m.k) (hi : i < m.n) (hj : j < m.n) (hn : look m.kvs (s, i, j) = some c) : Kh420.apply m.abs (.removeTransition s i j) = (({ m with kvs := drop m.kvs (s, i, j) } : Aut).abs, Kh420.single (c : Int)) := by
  have h : Kh419.isTransitionIndex m.abs s i j = true := by rw [index_is]; simp [hs, hi, hj]
  show (let r := (ite _ _ (ite _ _ _) : Kh419.Automaton × Kh419.Result); (r.1, (⟨r.2.status, r.2.values⟩ : Kh420.Result))) = _
  rw [h, if_neg (fun z => nomatch z), T_eq hs, entry_T hi hj, hn, if_neg (fun z => nomatch z), with_drop hs hi hj]; rfl
theorem pure_Module_remove_transition (T : Txt K mg ad) (vs : List V) (H : Hp) (Q : VK) (E : XK) (h : sp_Module_remove_transition P w K ad vs H Q E) : t_Module_remove_transition P w K ad { nx := fun _ H' => Q .non H', rt := Q } (start N_Module_remove_transition vs) H := by
  obtain ⟨_, _, rfl, md, b, m, s, i, j, rfl, rfl, M, hb, d⟩ := h
  obtain ⟨dx, ok, a, ob, A⟩ := id M
  refine q_asg (ev_auto T ob (ev_var (v := .ref md) (i := 0) rfl)) fun H1 e1 => ?_
  obtain ⟨k1, k2, k3⟩ := ev_key (K := K) (σ := [some (.ref md), some (.ref b), some (.ref a)]) (e1 _ _ hb) (ev_var (v := .ref b) (i := 1) rfl)
  refine q_when (et_not (et_B (ev_knows (A.mono e1) (ev_var (v := .ref a) (i := 2) rfl) k1 k2 k3))) (fun hk H2 e2 => ?_) fun hk H2 e2 => ?_
  · have hk : Kh419.isTransitionIndex m.abs s i j = false := of_not hk
    exact s_one ev_m fun p H3 hn e3 hp => d.same M (by rw [rem_out hk]) (by rw [rem_out hk]; rfl) ((e1.trans e2).trans e3) (fresh_back (e1.trans e2) hn) hp
  · have hk' : s < m.k ∧ i < m.n ∧ j < m.n := by simpa using hk
    obtain ⟨hs, hi, hj⟩ := hk'
    have e12 := e1.trans e2
    have test : EvT (tB (tDNotIn (tVar 1) (tFld K (tVar 2) "weights"))) [some (.ref md), some (.ref b), some (.ref a)] H2 (!(look m.kvs (s, i, j)).isSome) := by
      refine et_B fun H3 e3 Q3 q3 => ?_
      obtain ⟨dx2, wd, A1, A2⟩ := A.mono (e12.trans e3)
      refine ⟨.ref b, rfl, .ref a, rfl, a, ad.a, dx2, autF m wd, .ref wd, rfl, A1, T.cl_Automaton, T.nA3, aut_weights m wd, wd, _, rfl, DGet.t (k := trK (s, i, j)) A2 ((e12.trans e3) _ _ hb), ?_⟩
      rw [valV_kv, Option.isSome_map]
      exact q3 H3 (Ex.refl _)
    refine q_when test (fun hn H3 e3 => ?_) fun hn H3 e3 => ?_
    · have hn : look m.kvs (s, i, j) = none := by simpa using hn
      exact s_one ev_m fun p H4 hf e4 hp => d.same M (by rw [rem_none hs hi hj hn]) (by rw [rem_none hs hi hj hn]; rfl) ((e12.trans e3).trans e4) (fresh_back (e12.trans e3) hf) hp
    · obtain ⟨c, hc⟩ := Option.isSome_iff_exists.mp (show (look m.kvs (s, i, j)).isSome = true by simpa using hn)
      have e13 := e12.trans e3
      obtain ⟨dx2, wd, A1, A2⟩ := A.mono e13
      refine ⟨.ref a, rfl, a, ad.a, dx2, autF m wd, .ref wd, rfl, A1, T.cl_Automaton, T.nA3, aut_weights m wd, ?_⟩
      refine ⟨?_, .ref b, rfl, wd, kvV m.kvs, trK (s, i, j), b, natV c, rfl, rfl, A2, e13 _ _ hb, by rw [valV_kv, hc]; rfl, ?_⟩
      · exact Or.inr (Or.inr (Or.inl ⟨rfl, Or.inr ⟨_, A2⟩⟩))
      · refine ⟨by show 1 ≤ sizeLine; decide, fun p hp => ?_⟩
        rw [dropK_kv] at hp ⊢
        have M' := ModAt.upd_kvs (e13 _ _ ob) A1 A2 (ok_drop ok (s, i, j))
        refine d _ p _ (((Keep.ex e13).trans (Keep.upd A2 rfl)).trans (Keep.ex (Ex.new hp))) (fresh_back e13 (fresh_upd hp)) ?_ (M'.mono (Ex.new hp)) ?_
        · rw [rem_some hs hi hj hc]; exact upd_same
        · rw [rem_some hs hi hj hc]
/-! ### masks -/
theorem put_initial (wd : Addr) (k : Nat) : putF "initial" (natV k) (autF m wd) = autF { m with mI := k } wd :=
  (put_past (by decide +kernel)).trans (congrArg _ ((put_past (by decide +kernel)).trans (congrArg _ ((put_past (by decide +kernel)).trans (congrArg _ put_here)))))
theorem put_final (wd : Addr) (k : Nat) : putF "final" (natV k) (autF m wd) = autF { m with mF := k } wd :=
  (put_past (by decide +kernel)).trans (congrArg _ ((put_past (by decide +kernel)).trans (congrArg _ ((put_past (by decide +kernel)).trans (congrArg _ ((put_past (by decide +kernel)).trans (congrArg _ put_here)))))))
theorem mask_bad {ini : Bool} {k : Nat} (h : ¬ k < 2 ^ m.n) : Kh420.apply m.abs (if ini = true then .setInitial k else .setFinal k) = (m.abs, Kh420.single (-22)) := by
  cases ini with
  | true =>
    show (let r := (ite _ _ _ : Kh419.Automaton × Kh419.Result); (r.1, (⟨r.2.status, r.2.values⟩ : Kh420.Result))) = _
    rw [if_pos (show 2 ^ m.abs.stateCount ≤ k from Nat.le_of_not_lt h)]; rfl
  | false =>
    show (let r := (ite _ _ _ : Kh419.Automaton × Kh419.Result); (r.1, (⟨r.2.status, r.2.values⟩ : Kh420.Result))) = _
    rw [if_pos (show 2 ^ m.abs.stateCount ≤ k from Nat.le_of_not_lt h)]; rfl
theorem mask_ini {k : Nat} (ok : m.Ok) (h : k < 2 ^ m.n) : Kh420.apply m.abs (.setInitial k) = (({ m with mI := k } : Aut).abs, Kh420.single (m.mI : Int)) := by
  show (let r := (ite _ _ _ : Kh419.Automaton × Kh419.Result); (r.1, (⟨r.2.status, r.2.values⟩ : Kh420.Result))) = _
  rw [if_neg (show ¬ 2 ^ m.abs.stateCount ≤ k from Nat.not_le_of_lt h)]
  show (_, Kh420.single ((Kh419.maskOfStates (Kh419.statesOfMask m.mI m.n) : Nat) : Int)) = _
  rw [mask_back ok.n1 ok.n3 ok.mI]; rfl
theorem mask_fin {k : Nat} (ok : m.Ok) (h : k < 2 ^ m.n) : Kh420.apply m.abs (.setFinal k) = (({ m with mF := k } : Aut).abs, Kh420.single (m.mF : Int)) := by
  show (let r := (ite _ _ _ : Kh419.Automaton × Kh419.Result); (r.1, (⟨r.2.status, r.2.values⟩ : Kh420.Result))) = _
  rw [if_neg (show ¬ 2 ^ m.abs.stateCount ≤ k from Nat.not_le_of_lt h)]
  show (_, Kh420.single ((Kh419.maskOfStates (Kh419.statesOfMask m.mF m.n) : Nat) : Int)) = _
  rw [mask_back ok.n1 ok.n3 ok.mF]; rfl
theorem ModAt.upd_aut {m' : Aut} {dx dx2 wd : Addr} (ob : H md = some (.ins ad.o dx (modF (.ref a)))) (h1 : H a = some (.ins ad.a dx2 (autF m wd))) (h2 : H wd = some (.dT (kvV m.kvs))) (ok : m'.Ok) (ek : m'.kvs = m.kvs) :
    ModAt ad (upd H a (.ins ad.a dx2 (autF m' wd))) md (some m') :=
  ⟨dx, ok, a, by rw [upd_ne (fun z => by rw [z, h1] at ob; exact mod_aut (Option.some.inj ob).symm)]; exact ob, dx2, wd, upd_same, by rw [upd_ne (fun z => by rw [z, h1] at h2; cases h2), ek]; exact h2⟩
theorem pure_Module_set_mask (T : Txt K mg ad) (vs : List V) (H : Hp) (Q : VK) (E : XK) (h : sp_Module_set_mask P w K ad vs H Q E) : t_Module_set_mask P w K ad { nx := fun _ H' => Q .non H', rt := Q } (start N_Module_set_mask vs) H := by
  obtain ⟨_, _, _, rfl, md, m, ini, k, rfl, rfl, rfl, M, d⟩ := h
  obtain ⟨dx, ok, a, ob, A⟩ := id M
  refine q_asg (ev_auto T ob (ev_var (v := .ref md) (i := 0) rfl)) fun H1 e1 => ?_
  refine q_when (b := !decide (k < 2 ^ m.n)) (et_not (et_B (aut_methV (A.mono e1) (ev_var (v := .ref a) (i := 3) rfl) (by decide +kernel) (ea_one (ev_var (v := natV k) (i := 2) rfl)) fun H2 e2 Q2 q2 => ⟨_, _, rfl, a, m, k, rfl, rfl, A.mono (e1.trans e2), ok, q2⟩))) (fun hk H2 e2 => ?_) fun hk H2 e2 => ?_
  · have hk : ¬ k < 2 ^ m.n := by simpa using hk
    exact s_one ev_m fun p H3 hn e3 hp => d.same M (by rw [mask_bad hk]) (by rw [mask_bad hk]; rfl) ((e1.trans e2).trans e3) (fresh_back (e1.trans e2) hn) hp
  · have hk : k < 2 ^ m.n := by simpa using hk
    have e12 := e1.trans e2
    cases ini with
    | true =>
      refine q_if (b := true) (et_B (ev_var (i := 1) rfl)) (fun _ H3 e3 => ?_) (fun z => nomatch z)
      have e13 := e12.trans e3
      refine q_asg (ev_initial T (A.mono e13) (ev_var (v := .ref a) (i := 3) rfl)) fun H4 e4 => ?_
      have e14 := e13.trans e4
      obtain ⟨dx2, wd, A1, A2⟩ := A.mono e14
      refine ⟨natV k, rfl, .ref a, rfl, a, ad.a, dx2, autF m wd, rfl, A1, T.cl_Automaton, T.nA4, (by show 5 < 1000; decide), ?_⟩
      rw [put_initial]
      have M' := ModAt.upd_aut (m' := { m with mI := k }) (e14 _ _ ob) A1 A2 ⟨ok.n1, ok.n3, ok.k1, ok.k2, hk, ok.mF, ok.nd, ok.keys⟩ rfl
      refine s_one (x := (m.mI : Int)) (ev_var rfl) fun p H5 hn e5 hp => d H5 p _ (((Keep.ex e14).trans (Keep.upd A1 rfl)).trans (Keep.ex e5)) (fresh_back e14 (fresh_upd hn)) ?_ (M'.mono e5) ?_
      · rw [if_pos rfl, mask_ini ok hk]; exact hp
      · rw [if_pos rfl, mask_ini ok hk]
    | false =>
      refine q_if (b := false) (et_B (ev_var (i := 1) rfl)) (fun z => nomatch z) fun _ H3 e3 => ?_
      have e13 := e12.trans e3
      refine q_asg (ev_final T (A.mono e13) (ev_var (v := .ref a) (i := 3) rfl)) fun H4 e4 => ?_
      have e14 := e13.trans e4
      obtain ⟨dx2, wd, A1, A2⟩ := A.mono e14
      refine ⟨natV k, rfl, .ref a, rfl, a, ad.a, dx2, autF m wd, rfl, A1, T.cl_Automaton, T.nA5, (by show 5 < 1000; decide), ?_⟩
      rw [put_final]
      have M' := ModAt.upd_aut (m' := { m with mF := k }) (e14 _ _ ob) A1 A2 ⟨ok.n1, ok.n3, ok.k1, ok.k2, ok.mI, hk, ok.nd, ok.keys⟩ rfl
      refine s_one (x := (m.mF : Int)) (ev_var rfl) fun p H5 hn e5 hp => d H5 p _ (((Keep.ex e14).trans (Keep.upd A1 rfl)).trans (Keep.ex e5)) (fresh_back e14 (fresh_upd hn)) ?_ (M'.mono e5) ?_
      · rw [if_neg (fun z => nomatch z), mask_fin ok hk]; exact hp
      · rw [if_neg (fun z => nomatch z), mask_fin ok hk]
theorem pure_Module_status (T : Txt K mg ad) (vs : List V) (H : Hp) (Q : VK) (E : XK) (h : sp_Module_status P w K ad vs H Q E) : t_Module_status P w K ad { nx := fun _ H' => Q .non H', rt := Q } (start N_Module_status vs) H := by
  obtain ⟨_, rfl, md, m, rfl, M, d⟩ := h
  obtain ⟨dx, ok, a, ob, A⟩ := id M
  have au := ev_auto (K := K) (σ := [some (.ref md)]) T ob (ev_var (v := .ref md) (i := 0) rfl)
  obtain ⟨dx2, wd, A1, A2⟩ := id A
  have hlen : Ev (tCB rLenT (tCons (tFld K (tFld K (tVar 0) "automaton") "weights") tNil)) [some (.ref md)] H (natV m.kvs.length) :=
    ev_cb (ea_one (ev_fld au A1 T.cl_Automaton T.nA3 (aut_weights m wd))) fun H1 e1 Q1 q1 => ⟨wd, _, rfl, e1 _ _ A2, by
      have e : (kvV m.kvs).length = m.kvs.length := by unfold kvV; rw [List.length_map]
      rw [e]; exact q1 H1 (Ex.refl _)⟩
  refine s_retL (el_lst (ea_three (ev_states T A au) (ev_symbols T A au) hlen) (by show 3 ≤ 100000; decide)) fun p H1 hn e1 hp => d.same M rfl (l := [(m.n : Int), (m.k : Int), (m.kvs.length : Int)]) ?_ e1 hn hp
  show [((m.n : Nat) : Int), ((m.k : Nat) : Int), (((Kh419.allWeights m.abs).filter Option.isSome).length : Int)] = _
  rw [status_count ok]
end
end Cr

/-! Readings: the module, what only asks. -/
namespace Cr
open PySem PySem.Spec PyProof.Rows L2 Evl Cw
section
variable {P : Program} {w : World} {K : PySem.W.Frag} {mg : Str → Option Value} {base : Heap} {ad : Ad} {σ : L2.St} {H H' : Hp} {ta tb tc te tv : TE} {a : Addr} {m : Aut} {D : Ends} {tz : TS} {Q : VK} {md : Addr}
theorem vals_new (x : Nat) (l : List Nat) : (resV (Kh420.withValues x l)).map V.int = natV x :: intsV l := by
  show V.int (x : Int) :: (l.map Int.ofNat).map V.int = _
  rw [List.map_map]; rfl
theorem newp_vals {x : Nat} {l : List Nat} {R : V → Hp → Prop} (h : EvP te σ H (RefF H fun H' p => H' p = some (.lst (natV x :: intsV l)))) : EvP te σ H (NewP H (resV (Kh420.withValues x l))) :=
  evp_weak h fun v H2 e ⟨p, ev, hn, hp⟩ => ⟨p, ev, hn, by show H2 p = some (.lst ((resV (Kh420.withValues x l)).map V.int)); rw [vals_new]; exact hp⟩
theorem evp_descr {n : Nat} {M : Kh420.AbstractMatrix} (n3 : n ≤ 3) (ok : MOk n M) (h : EvP ta σ H (RefP fun H' p => MatAt H' p M)) : EvP (tCall (sp_described P w K ad) [] E0 (tCons ta tNil)) σ H (NewP H (resV (Kh420.withValues (n * n) M.flatten))) := by
  refine newp_vals (R := fun _ _ => True) (evp_call (evpa_one h) fun vs H1 e1 ⟨v, ev, p, ev2, hp⟩ Q1 q1 => ?_)
  subst ev ev2
  exact ⟨_, rfl, p, n, M, rfl, n3, hp, ok, fun v H2 e2 ⟨r, ev, hn, hr⟩ => q1 v H2 e2 ⟨r, ev, fresh_back e1 hn, hr⟩⟩
/-- what is answered, the automaton as it was -/
theorem s_fin {c : Kh420.Call} {H0 : Hp} {l : List Int} (d : Doing ad H0 md m c Q) (M : ModAt ad H0 md (some m)) (e1 : (Kh420.apply m.abs c).1 = m.abs) (he : resV (Kh420.apply m.abs c).2 = l) (e : Ex H0 H) (h : EvP te σ H (NewP H l)) {nx : L2.St → Hp → Prop} :
    tRet te { nx := nx, rt := Q } σ H := s_retP h fun v H1 e2 ⟨p, ev, hn, hp⟩ => by
  subst ev
  exact d.same M e1 he (e.trans e2) (fresh_back e hn) hp
theorem el_cat {b : Addr} {xs ys : List V} (h : EvL ta σ H xs) (hb : Ev tb σ H (.ref b)) (hy : H b = some (.lst ys)) (hz : xs.length + ys.length ≤ sizeLine) : EvL (tOp rCat ta tb) σ H (xs ++ ys) := fun H1 e Q q =>
  h H1 e _ fun p H2 hp e2 h2 => hb H2 (e.trans e2) _ fun H3 e3 => ⟨p, b, xs, ys, rfl, rfl, e3 _ _ h2, (e.trans e2 |>.trans e3) _ _ hy, hz, fun r hr => q r _ (fresh_back (e2.trans e3) hr) ((e2.trans e3).trans (Ex.new hr)) upd_same⟩
theorem evpa_two {x : V} {R : V → Hp → Prop} (h1 : Ev ta σ H x) (h2 : EvP tb σ H R) : EvPA (tCons ta (tCons tb tNil)) σ H (fun us H2 => ∃ v, us = [x, v] ∧ R v H2) := fun H1 e Q q =>
  h1 H1 e _ fun H2 e2 => h2 H2 (e.trans e2) _ fun v H3 e3 p => q _ H3 (e2.trans e3) ⟨v, rfl, p⟩
theorem size_10m {n : Nat} (h : n ≤ 10000001) : n ≤ sizeLine := Nat.le_trans h (by decide)
/-- [len(l)] + l -/
theorem evp_count {b : Addr} {l : List Nat} (h1 : Ev ta σ H (.ref b)) (h2 : Ev tb σ H (.ref b)) (hb : H b = some (.lst (intsV l))) (hz : l.length ≤ 10000000) : EvP (tOp rCat (tLst (tCons (tCB (rLenS K) (tCons ta tNil)) tNil)) tb) σ H (NewP H (resV (Kh420.withValues l.length l))) := by
  have hl : (intsV l).length = l.length := by unfold intsV; rw [List.length_map]
  have e := el_cat (el_lst (ea_one (ev_is (ev_len (K := K) h1 (sq_of hb)) (w := natV l.length) (by rw [hl]; rfl))) (by show 1 ≤ 100000; decide)) h2 hb (by rw [hl]; exact size_10m (by show 1 + l.length ≤ _; omega))
  exact newp_vals (R := fun _ _ => True) (evp_elF e)
/-! ### words -/
theorem ask_word (number : Nat) (ws : List Nat) : (Kh420.apply m.abs (wordCall number ws)).1 = m.abs := by
  unfold wordCall
  repeat' split
  all_goals rfl
theorem ask_no_word (number : Nat) {ws : List Nat} (h : Kh419.isWord m.abs ws = false) : (Kh420.apply m.abs (wordCall number ws)).2 = Kh420.single (-22) := by
  unfold wordCall
  repeat' split
  all_goals exact if_pos h
theorem word_syms {ws : List Nat} (h : Kh419.isWord m.abs ws = true) : ∀ s ∈ ws, s < m.k := fun s hs => of_decide_eq_true (List.all_eq_true.mp h s hs)
theorem ev_isword {l : Addr} {ws : List Nat} (A : AutAt ad H a m) (hl : LstAt K H l ws) (hz : ws.length ≤ 1000) (h1 : Ev ta σ H (.ref a)) (h2 : Ev tb σ H (.ref l)) : Ev (tMeth ad.a "is_word" (sp_Automaton_is_word P w K ad) [] E0 ta (tCons tb tNil)) σ H (.bl (Kh419.isWord m.abs ws)) :=
  aut_methV A h1 (by decide +kernel) (ea_one h2) fun H1 e Q q => ⟨_, _, rfl, a, l, m, ws, rfl, rfl, A.mono e, ex_l e hl, hz, q⟩
theorem ev_costw {l : Addr} {ws : List Nat} (A : AutAt ad H a m) (ok : m.Ok) (hl : LstAt K H l ws) (hs : ∀ s ∈ ws, s < m.k) (hz : ws.length ≤ 1000) (h1 : Ev ta σ H (.ref a)) (h2 : Ev tb σ H (.ref l)) : Ev (tCall (sp_cost_of P w K ad) [] E0 (tCons ta (tCons tb tNil))) σ H (wV (Kh419.cost m.abs ws)) :=
  ev_callV (ea_two h1 h2) fun H1 e Q q => ⟨_, _, rfl, a, l, m, ws, rfl, rfl, A.mono e, ok, ex_l e hl, hs, hz, q⟩
theorem pure_Module_about_word (T : Txt K mg ad) (vs : List V) (H : Hp) (Q : VK) (E : XK) (h : sp_Module_about_word P w K ad vs H Q E) : t_Module_about_word P w K ad { nx := fun _ H' => Q .non H', rt := Q } (start N_Module_about_word vs) H := by
  obtain ⟨_, _, _, rfl, md, l, m, number, ws, rfl, rfl, rfl, M, hl, hz, d⟩ := h
  obtain ⟨dx, ok, a, ob, A⟩ := id M
  have n1 := ok.n1
  have n3 := ok.n3
  have au : ∀ {H1 : Hp} {v3 v4}, Ex H H1 → Ev (tFld K (tVar 0) "automaton") [some (.ref md), some (natV number), some (.ref l), v3, v4] H1 (.ref a) := fun e => ev_auto T (e _ _ ob) (ev_var (v := .ref md) (i := 0) rfl)
  refine q_when (et_not (et_B (ev_isword A hl (by omega) (au (Ex.refl H)) (ev_var (v := .ref l) (i := 2) rfl)))) (fun hw H1 e1 => ?_) fun hw H1 e1 => ?_
  · have hw := of_not hw
    exact s_fin d M (ask_word number ws) (by rw [ask_no_word number hw]; rfl) e1 (evp_one ev_m)
  · have hw : Kh419.isWord m.abs ws = true := by simpa using hw
    have hs := word_syms hw
    refine q_when (et_test (ev_eqN (b := 17) (ev_var (v := natV number) (i := 1) rfl) ev_cN)) (fun h17 H2 e2 => ?_) fun h17 H2 e2 => ?_
    · have h17 := of_decide_eq_true h17
      subst h17
      refine q_asg (ev_costw (A.mono (e1.trans e2)) ok (ex_l (e1.trans e2) hl) hs (by omega) (au (e1.trans e2)) (ev_var (v := .ref l) (i := 2) rfl)) fun H3 e3 => ?_
      have sp : (Kh420.apply m.abs (wordCall 17 ws)).2 = match Kh419.cost m.abs ws with | none => Kh420.single (-33) | some c => Kh420.single c := if_neg (by rw [hw]; exact fun z => nomatch z)
      cases hc : Kh419.cost m.abs ws with
      | none =>
        rw [hc] at sp
        refine s_fin d M rfl (l := [-33]) (by rw [sp]; rfl) ((e1.trans e2).trans e3) (evp_if (b := false) (et_is (et_test (ev_op (ev_var (v := .int (-1)) (i := 3) rfl) ev_c rv_I0)) rfl) (fun z => nomatch z) fun _ => evp_one ev_m)
      | some c =>
        rw [hc] at sp
        refine s_fin d M rfl (l := [(c : Int)]) (by rw [sp]; rfl) ((e1.trans e2).trans e3) (evp_if (b := true) (et_is (et_test (ev_geN (a := c) (b := 0) (ev_var (i := 3) rfl) ev_cN)) (decide_eq_true (Nat.zero_le _))) (fun _ => evp_one (ev_var (v := natV c) (i := 3) rfl)) fun z => nomatch z)
    · have h17 := of_decide_eq_false h17
      refine q_asgP (evp_call (P := RefP fun H' p => MatAt H' p (Kh420.abstractMatrixOfWord m.abs ws)) (evpa_ea (ea_two (au (e1.trans e2)) (ev_var (v := .ref l) (i := 2) rfl))) fun vs H3 e3 ev Q1 q1 => ?_) fun v H3 e3 ⟨b, ev, hb⟩ => ?_
      · subst ev
        exact ⟨_, _, rfl, a, l, m, ws, rfl, rfl, A.mono ((e1.trans e2).trans e3), ok, ex_l ((e1.trans e2).trans e3) hl, hs, by omega, q1⟩
      · subst ev
        have e13 := (e1.trans e2).trans e3
        have okM := mok_word m ws
        have hv : ∀ {H4 : Hp}, Ex H3 H4 → EvP (tVar 4) [some (.ref md), some (natV number), some (.ref l), none, some (.ref b)] H4 (RefP fun H' p => MatAt H' p (Kh420.abstractMatrixOfWord m.abs ws)) := fun e => evp_weak (evp_ev (ev_var (v := .ref b) (i := 4) rfl)) fun v H5 e5 ev => ⟨b, ev, hb.mono (e.trans e5)⟩
        refine q_when (et_test (ev_eqN (b := 5) (ev_var (v := natV number) (i := 1) rfl) ev_cN)) (fun h5 H4 e4 => ?_) fun h5 H4 e4 => ?_
        · have h5 := of_decide_eq_true h5
          subst h5
          exact s_fin d M rfl (by rw [show (Kh420.apply m.abs (wordCall 5 ws)).2 = Kh420.withValues (m.n * m.n) (Kh420.abstractMatrixOfWord m.abs ws).flatten from if_neg (by rw [hw]; exact fun z => nomatch z)]) (e13.trans e4) (evp_descr n3 okM (hv e4))
        · have h5 := of_decide_eq_false h5
          refine q_when (et_test (ev_eqN (b := 6) (ev_var (v := natV number) (i := 1) rfl) ev_cN)) (fun h6 H5 e5 => ?_) fun h6 H5 e5 => ?_
          · have h6 := of_decide_eq_true h6
            subst h6
            have sp : (Kh420.apply m.abs (wordCall 6 ws)).2 = Kh420.ofBool (Kh420.isIdempotent m.n (Kh420.abstractMatrixOfWord m.abs ws)) := if_neg (by rw [hw]; exact fun z => nomatch z)
            refine s_fin d M rfl (l := [if Kh420.isIdempotent m.n (Kh420.abstractMatrixOfWord m.abs ws) = true then 1 else 0]) (by rw [sp]; rfl) ((e13.trans e4).trans e5) (evp_one (ev_if (et_B (evp_idem n1 n3 (hb.mono (e4.trans e5)) okM (ev_var (v := .ref b) (i := 4) rfl))) (fun z => ?_) fun z => ?_))
            · rw [if_pos z]; exact ev_c
            · rw [if_neg (by rw [z]; exact Bool.false_ne_true)]; exact ev_c
          · have h6 := of_decide_eq_false h6
            have ec : wordCall number ws = .stabilize ws := by unfold wordCall; rw [if_neg h17, if_neg h5, if_neg h6]
            rw [ec] at d
            have sp : (Kh420.apply m.abs (.stabilize ws)).2 = if Kh420.isIdempotent m.n (Kh420.abstractMatrixOfWord m.abs ws) = false then Kh420.single (-33) else Kh420.withValues (m.n * m.n) (Kh420.stabilize m.n (Kh420.abstractMatrixOfWord m.abs ws)).flatten := if_neg (by rw [hw]; exact fun z => nomatch z)
            refine s_fin d M rfl rfl ((e13.trans e4).trans e5) (evp_if (et_B (evp_idem n1 n3 (hb.mono (e4.trans e5)) okM (ev_var (v := .ref b) (i := 4) rfl))) (fun z => ?_) fun z => ?_)
            · rw [sp, z, if_neg (fun y => nomatch y)]
              exact evp_descr n3 (mok_stab _) (evp_stab n1 n3 (hb.mono (e4.trans e5)) okM (ev_var (v := .ref b) (i := 4) rfl))
            · rw [sp, z, if_pos rfl]
              exact evp_one ev_m
/-! ### expressions -/
theorem expr_syms {k : Nat} (hk : k ≤ 2) {ws : List Nat} (h : isExpr k ws = true) : ∀ s ∈ ws, s < 2 → s < k := by
  rcases expr_iff hk ws with ⟨z, _⟩ | ⟨_, hb, _⟩
  · rw [h] at z; cases z
  · intro s hs h2
    have := List.any_eq_false.mp hb s hs
    rw [badSign_iff] at this
    omega
theorem syms_step {k x : Nat} {st st' : List Kh420.Expression} (hx : x < 2 → x < k) (h : ∀ e ∈ st, Syms k e) (s : PStep x st st') : ∀ e ∈ st', Syms k e := by
  cases s with
  | join =>
    intro e he
    rcases List.mem_cons.mp he with rfl | he
    · exact ⟨h _ (List.mem_cons_of_mem _ List.mem_cons_self), h _ List.mem_cons_self⟩
    · exact h e (List.mem_cons_of_mem _ (List.mem_cons_of_mem _ he))
  | @again x st =>
    intro e he
    rcases List.mem_cons.mp he with rfl | he
    · exact h x List.mem_cons_self
    · exact h e (List.mem_cons_of_mem _ he)
  | sym h2 =>
    intro e he
    rcases List.mem_cons.mp he with rfl | he
    · exact hx h2
    · exact h e he
theorem syms_fold {k : Nat} : ∀ (ws : List Nat) (st st' : List Kh420.Expression), (∀ s ∈ ws, s < 2 → s < k) → (∀ e ∈ st, Syms k e) → ws.foldl pstep (some st) = some st' → ∀ e ∈ st', Syms k e
  | [], st, st', _, h, e => by cases e; exact h
  | x :: ws, st, st', hs, h, e => by
    rw [List.foldl_cons] at e
    cases q : pstep (some st) x with
    | none => rw [q, pstep_none] at e; cases e
    | some s1 =>
      rw [q] at e
      exact syms_fold ws s1 st' (fun s z => hs s (List.mem_cons_of_mem _ z)) (syms_step (hs x List.mem_cons_self) h (pstep_kind q)) e
theorem expr_is {k : Nat} (hk : k ≤ 2) {ws : List Nat} (h : isExpr k ws = true) {e : Kh420.Expression} (he : ws.foldl pstep (some []) = some [e]) : Syms k e := syms_fold ws [] [e] (expr_syms hk h) (fun _ z => nomatch z) he e List.mem_cons_self
theorem ev_isexpr {l : Addr} {ws : List Nat} (A : AutAt ad H a m) (ok : m.Ok) (hl : LstAt K H l ws) (h1 : Ev ta σ H (.ref a)) (h2 : Ev tb σ H (.ref l)) : Ev (tCall (sp_is_expression P w K ad) [] E0 (tCons ta (tCons tb tNil))) σ H (.bl (isExpr m.k ws)) :=
  ev_callV (ea_two h1 h2) fun H1 e Q q => ⟨_, _, rfl, a, l, m, ws, rfl, rfl, A.mono e, ok, ex_l e hl, q⟩
theorem pure_Module_evaluate (T : Txt K mg ad) (vs : List V) (H : Hp) (Q : VK) (E : XK) (h : sp_Module_evaluate P w K ad vs H Q E) : t_Module_evaluate P w K ad { nx := fun _ H' => Q .non H', rt := Q } (start N_Module_evaluate vs) H := by
  obtain ⟨_, _, rfl, md, l, m, ws, rfl, rfl, M, hl, hz, d⟩ := h
  obtain ⟨dx, ok, a, ob, A⟩ := id M
  have n1 := ok.n1
  have n3 := ok.n3
  have au : ∀ {H1 : Hp} {v2}, Ex H H1 → Ev (tFld K (tVar 0) "automaton") [some (.ref md), some (.ref l), v2] H1 (.ref a) := fun e => ev_auto T (e _ _ ob) (ev_var (v := .ref md) (i := 0) rfl)
  have sp := spec_expr (a := m.abs) ws (fun e => match Kh420.matrixOf m.abs e with | none => Kh420.single (-33) | some M => Kh420.withValues (m.n * m.n) M.flatten) ok.k2
  have ap : ∀ r, Kh420.withExpression m.abs ws (fun e => match Kh420.matrixOf m.abs e with | none => Kh420.single (-33) | some M => Kh420.withValues (m.n * m.n) M.flatten) = r → (Kh420.apply m.abs (.evaluateExpression ws)).2 = r := fun _ h => h
  refine q_when (et_not (et_B (ev_isexpr A ok hl (au (Ex.refl H)) (ev_var (v := .ref l) (i := 1) rfl)))) (fun hw H1 e1 => ?_) fun hw H1 e1 => ?_
  · have hw := of_not hw
    rcases sp with ⟨_, s⟩ | ⟨z, _⟩
    · exact s_fin d M rfl (l := [-22]) (by rw [ap _ s]; rfl) e1 (evp_one ev_m)
    · exact absurd (hw.symm.trans z) (fun z => nomatch z)
  · have hw : isExpr m.k ws = true := by simpa using hw
    rcases sp with ⟨z, _⟩ | ⟨_, e, he, s⟩
    · exact absurd (z.symm.trans hw) (fun z => nomatch z)
    · have hsy := expr_is ok.k2 hw he
      refine q_asgP (evp_call (P := RefP fun H' p => MatAt H' p (val m e)) (evpa_ea (ea_two (au e1) (ev_var (v := .ref l) (i := 1) rfl))) fun vs H2 e2 ev Q1 q1 => ?_) fun v H2 e2 ⟨b, ev, hb⟩ => ?_
      · subst ev
        exact ⟨_, _, rfl, a, l, m, ws, e, rfl, rfl, A.mono (e1.trans e2), ok, ex_l (e1.trans e2) hl, by omega, he, expr_syms ok.k2 hw, q1⟩
      · subst ev
        have tst := et_test (ev_gtN (b := 0) (ev_lenM (K := K) hb (ev_var (σ := [some (.ref md), some (.ref l), some (.ref b)]) (v := .ref b) (i := 2) rfl)) (ev_cN (i := 0)))
        rcases val_len ok hsy with ⟨hlen, M', hM, hv, okM⟩ | ⟨hlen, hM⟩
        · rw [hlen] at tst
          refine s_fin d M rfl (l := resV (Kh420.withValues (m.n * m.n) M'.flatten)) (by rw [ap _ s, hM]) (e1.trans e2) (evp_if tst (fun _ => ?_) fun z => nomatch z)
          exact evp_descr n3 okM (evp_weak (evp_ev (ev_var (v := .ref b) (i := 2) rfl)) fun v H3 e3 ev => ⟨b, ev, by rw [← hv]; exact hb.mono e3⟩)
        · rw [hlen] at tst
          exact s_fin d M rfl (l := [-33]) (by rw [ap _ s, hM]; rfl) (e1.trans e2) (evp_if tst (fun z => nomatch z) fun _ => evp_one ev_m)
theorem evp_unrolled {l : Addr} {ws : List Nat} {count : Nat} {e : Kh420.Expression} (hl : LstAt K H l ws) (hz : ws.length ≤ 1000) (hc : count ≤ 4) (he : ws.foldl pstep (some []) = some [e]) (h1 : Ev ta σ H (.ref l)) (h2 : Ev tb σ H (natV count)) :
    EvP (tCall (sp_unrolled P w K ad) [] E0 (tCons ta (tCons tb tNil))) σ H (RefP fun H' p => H' p = some (.lst (intsV (cut count e)))) := by
  refine evp_call (evpa_ea (ea_two h1 h2)) fun vs H2 e2 ev Q1 q1 => ?_
  subst ev
  exact ⟨_, _, rfl, l, ws, count, e, rfl, rfl, ex_l e2 hl, hz, hc, he, q1⟩
theorem pure_Module_unroll (T : Txt K mg ad) (vs : List V) (H : Hp) (Q : VK) (E : XK) (h : sp_Module_unroll P w K ad vs H Q E) : t_Module_unroll P w K ad { nx := fun _ H' => Q .non H', rt := Q } (start N_Module_unroll vs) H := by
  obtain ⟨_, _, _, _, rfl, md, l, m, number, count, ws, rfl, rfl, rfl, rfl, M, hl, hz, d⟩ := h
  obtain ⟨dx, ok, a, ob, A⟩ := id M
  have au : ∀ {H1 : Hp} {v4 v5 v6}, Ex H H1 → Ev (tFld K (tVar 0) "automaton") [some (.ref md), some (natV number), some (natV count), some (.ref l), v4, v5, v6] H1 (.ref a) := fun e => ev_auto T (e _ _ ob) (ev_var (v := .ref md) (i := 0) rfl)
  let f9 : Kh420.Expression → Kh420.Result := fun e => if 60 < (Kh420.unroll count e).length then Kh420.single (-75) else Kh420.withValues (Kh420.unroll count e).length (Kh420.unroll count e)
  let f10 : Kh420.Expression → Kh420.Result := fun e => if 60 < (Kh420.unroll count e).length then Kh420.single (-75) else ⟨count + 1, (List.range (count + 1)).map fun k => Kh419.encodeWeight (Kh419.cost m.abs (Kh420.unroll k e))⟩
  let f : Kh420.Expression → Kh420.Result := if number = 9 then f9 else f10
  have ap1 : (Kh420.apply m.abs (if number = 9 then .unrollExpression count ws else .costsOfUnrollings count ws)).1 = m.abs := by split <;> rfl
  have ap2 : (Kh420.apply m.abs (if number = 9 then .unrollExpression count ws else .costsOfUnrollings count ws)).2 = if 4 < count then Kh420.single (-22) else Kh420.withExpression m.abs ws f := by
    show _ = if 4 < count then Kh420.single (-22) else Kh420.withExpression m.abs ws (if number = 9 then f9 else f10)
    by_cases z : number = 9
    · rw [if_pos z, if_pos z]; rfl
    · rw [if_neg z, if_neg z]; rfl
  have sp := spec_expr (a := m.abs) ws f ok.k2
  refine q_when (et_or (et_test (ev_gtN (b := 4) (ev_var (v := natV count) (i := 2) rfl) ev_cN)) fun _ => et_not (et_B (ev_isexpr A ok hl (au (Ex.refl H)) (ev_var (v := .ref l) (i := 3) rfl)))) (fun hw H1 e1 => ?_) fun hw H1 e1 => ?_
  · refine s_fin d M ap1 (l := [-22]) ?_ e1 (evp_one ev_m)
    rw [ap2]
    by_cases h4 : 4 < count
    · rw [if_pos h4]; rfl
    · rw [if_neg h4]
      have hw : isExpr m.k ws = false := by
        rw [decide_eq_false h4, Bool.false_or] at hw
        exact of_not hw
      rcases sp with ⟨_, s⟩ | ⟨z, _⟩
      · rw [s]; rfl
      · exact absurd (hw.symm.trans z) (fun z => nomatch z)
  · have hw2 : ¬ 4 < count ∧ isExpr m.k ws = true := by
      simp only [Bool.or_eq_false_iff, decide_eq_false_iff_not, Bool.not_eq_false'] at hw
      exact hw
    obtain ⟨h4, hw⟩ := hw2
    rw [if_neg h4] at ap2
    rcases sp with ⟨z, _⟩ | ⟨_, e, he, s⟩
    · exact absurd (z.symm.trans hw) (fun z => nomatch z)
    · have hsy := expr_is ok.k2 hw he
      rw [s] at ap2
      refine q_when (et_test (ev_geN (a := cutLen count e) (b := 61) (ev_callV (ea_two (ev_var (v := .ref l) (i := 3) rfl) (ev_var (v := natV count) (i := 2) rfl)) fun H2 e2 Q1 q1 => ⟨_, _, rfl, l, ws, count, e, rfl, rfl, ex_l (e1.trans e2) hl, by omega, by omega, he, q1⟩) ev_cN)) (fun hb H2 e2 => ?_) fun hb H2 e2 => ?_
      · have hb := of_decide_eq_true hb
        have big : 60 < (Kh420.unroll count e).length := by unfold cutLen at hb; omega
        refine s_fin d M ap1 (l := [-75]) ?_ (e1.trans e2) (evp_one ev_m)
        rw [ap2]
        show resV ((if number = 9 then f9 else f10) e) = _
        split
        · show resV (if _ then _ else _) = _
          rw [if_pos big]; rfl
        · show resV (if _ then _ else _) = _
          rw [if_pos big]; rfl
      · have hb := of_decide_eq_false hb
        have small : ¬ 60 < (Kh420.unroll count e).length := by unfold cutLen at hb; omega
        have e12 := e1.trans e2
        refine q_when (et_test (ev_eqN (b := 9) (ev_var (v := natV number) (i := 1) rfl) ev_cN)) (fun h9 H3 e3 => ?_) fun h9 H3 e3 => ?_
        · have h9 := of_decide_eq_true h9
          refine q_asgP (evp_unrolled (ex_l (e12.trans e3) hl) (by omega) (by omega) he (ev_var (v := .ref l) (i := 3) rfl) (ev_var (v := natV count) (i := 2) rfl)) fun v H4 e4 ⟨b, ev, hb⟩ => ?_
          subst ev
          rw [cut_eq (by omega)] at hb
          refine s_fin d M ap1 (l := resV (Kh420.withValues (Kh420.unroll count e).length (Kh420.unroll count e))) ?_ ((e12.trans e3).trans e4) (evp_count (ev_var (v := .ref b) (i := 4) rfl) (ev_var (v := .ref b) (i := 4) rfl) hb (by omega))
          rw [ap2]
          show resV ((if number = 9 then f9 else f10) e) = _
          rw [if_pos h9]
          show resV (if _ then _ else _) = _
          rw [if_neg small]
        · have h9 := of_decide_eq_false h9
          have e13 := e12.trans e3
          have costs : EvL (tLc (iRng1 (tCons (tOp rPlus (tVar 2) (tC (.int 1))) tNil)) (gName 6) tYes (tCall (sp_cost_of P w K ad) [] E0 (tCons (tFld K (tVar 0) "automaton") (tCons (tCall (sp_unrolled P w K ad) [] E0 (tCons (tVar 3) (tCons (tVar 6) tNil))) tNil))) [6])
              [some (.ref md), some (natV number), some (natV count), some (.ref l), none, none, none] H3 ((List.range (count + 1)).map fun k => wV (Kh419.cost m.abs (Kh420.unroll k e))) := by
            refine el_map (n := count + 1) _ (ea_one (ev_addN (b := 1) (ev_var (v := natV count) (i := 2) rfl) ev_cN)) (by omega) (fun _ => rfl) fun k H4 e4 hk => ?_
            have e14 := e13.trans e4
            have lk : (Kh420.unroll k e).length ≤ 60 := Nat.le_trans (unroll_mono (j := k) (k := count) (by omega) e) (by omega)
            refine ev_evp (evp_call (evpa_two (au e14) (evp_unrolled (count := k) (e := e) (ex_l e14 hl) (by omega) (by omega) he (ev_var (v := .ref l) (i := 3) rfl) (ev_var (v := natV k) (i := 6) rfl))) fun vs H5 e5 ⟨v, ev, b, eb, hb⟩ Q1 q1 => ?_)
            subst ev eb
            rw [cut_eq lk] at hb
            exact ⟨_, _, rfl, a, b, m, Kh420.unroll k e, rfl, rfl, A.mono (e14.trans e5), ok, sq_of hb, unroll_syms hsy, by omega, fun H6 e6 => q1 _ H6 e6 rfl⟩
          refine q_asgL costs fun b H4 _ e4 hb => ?_
          refine s_retL (el_cat (el_lst (ea_one (ev_addN (a := count) (b := 1) (ev_var (i := 2) rfl) ev_cN)) (by show 1 ≤ 100000; decide)) (ev_var (v := .ref b) (i := 5) rfl) hb (by rw [List.length_map, List.length_range]; show 1 + _ ≤ _; exact sz_of (by omega))) fun p H5 hn e5 hp => d.same M ap1 rfl ((e13.trans e4).trans e5) (fresh_back (e13.trans e4) hn) ?_
          rw [ap2]
          show H5 p = some (.lst ((resV ((if number = 9 then f9 else f10) e)).map V.int))
          rw [if_neg h9]
          have e10 : f10 e = ⟨count + 1, (List.range (count + 1)).map fun k => Kh419.encodeWeight (Kh419.cost m.abs (Kh420.unroll k e))⟩ := if_neg small
          rw [e10]
          show H5 p = some (.lst (V.int ((count : Int) + 1) :: ((List.range (count + 1)).map fun k => Kh419.encodeWeight (Kh419.cost m.abs (Kh420.unroll k e))).map V.int))
          rw [List.map_map]
          exact hp
end
end Cr

/-! Readings: the module, the monoid and the bounds. -/
namespace Cr
open PySem PySem.Spec PyProof.Rows L2 Evl Cw
section
variable {P : Program} {w : World} {K : PySem.W.Frag} {mg : Str → Option Value} {base : Heap} {ad : Ad} {σ : L2.St} {H H' : Hp} {ta tb tc te tv : TE} {a : Addr} {m : Aut} {D : Ends} {tz : TS} {Q : VK} {md : Addr} {A : MA} {L : Kh420.Elements} {B : List Part}
theorem ev_isN {x : V} (h : Ev ta σ H x) : Ev (tOp rIsN ta (tC .non)) σ H (.bl (decide (x = .non))) := ev_op h ev_c (rv_val fun H1 e Q q => ⟨rfl, q⟩)
theorem pure_Module_word_above (T : Txt K mg ad) (vs : List V) (H : Hp) (Q : VK) (E : XK) (h : sp_Module_word_above P w K ad vs H Q E) : t_Module_word_above P w K ad { nx := fun _ H' => Q .non H', rt := Q } (start N_Module_word_above vs) H := by
  obtain ⟨_, _, rfl, md, m, b, rfl, rfl, M, d⟩ := h
  obtain ⟨dx, ok, a, ob, hA⟩ := id M
  have sp : (Kh420.apply m.abs (.firstWordAbove b)).2 = if 9 < b then Kh420.single (-22) else match Kh420.firstWordAbove m.abs b with | none => Kh420.single (-33) | some word => Kh420.withValues word.length word := rfl
  refine q_when (et_test (ev_gtN (b := 9) (ev_var (v := natV b) (i := 1) rfl) ev_cN)) (fun hb H1 e1 => ?_) fun hb H1 e1 => ?_
  · have hb := of_decide_eq_true hb
    exact s_fin d M rfl (l := [-22]) (by rw [sp, if_pos hb]; rfl) e1 (evp_one ev_m)
  · have hb := of_decide_eq_false hb
    rw [if_neg hb] at sp
    refine q_asgP (evp_call (P := fun v H' => match Kh420.firstWordAbove m.abs b with | none => v = .non | some ws => ∃ p, v = .ref p ∧ H' p = some (.lst (intsV ws)) ∧ ws.length ≤ 100000) (evpa_ea (ea_two (ev_auto T (e1 _ _ ob) (ev_var (v := .ref md) (i := 0) rfl)) (ev_var (v := natV b) (i := 1) rfl))) fun vs H2 e2 ev Q1 q1 => ?_) fun v H2 e2 hv => ?_
    · subst ev
      exact ⟨_, _, rfl, a, m, b, rfl, rfl, hA.mono (e1.trans e2), ok, by omega, q1⟩
    · cases hf : Kh420.firstWordAbove m.abs b with
      | none =>
        rw [hf] at sp hv
        have hv : v = .non := hv
        subst hv
        exact s_fin d M rfl (l := [-33]) (by rw [sp]; rfl) (e1.trans e2) (evp_if (b := true) (et_is (et_test (ev_isN (ev_var (v := .non) (i := 2) rfl))) rfl) (fun _ => evp_one ev_m) fun z => nomatch z)
      | some ws =>
        rw [hf] at sp hv
        obtain ⟨p, ev, hp, hz⟩ : ∃ p, v = .ref p ∧ H2 p = some (.lst (intsV ws)) ∧ ws.length ≤ 100000 := hv
        subst ev
        exact s_fin d M rfl (l := resV (Kh420.withValues ws.length ws)) (by rw [sp]) (e1.trans e2) (evp_if (b := false) (et_is (et_test (ev_isN (ev_var (v := .ref p) (i := 2) rfl))) (decide_eq_false fun z => nomatch z)) (fun z => nomatch z) fun _ => evp_count (ev_var (v := .ref p) (i := 2) rfl) (ev_var (v := .ref p) (i := 2) rfl) hp (by omega))
theorem pure_Module_least_bound (T : Txt K mg ad) (vs : List V) (H : Hp) (Q : VK) (E : XK) (h : sp_Module_least_bound P w K ad vs H Q E) : t_Module_least_bound P w K ad { nx := fun _ H' => Q .non H', rt := Q } (start N_Module_least_bound vs) H := by
  obtain ⟨_, rfl, md, m, rfl, M, q⟩ := h
  obtain ⟨dx, ok, a, ob, hA⟩ := id M
  generalize hg : greatest m.abs (rowsOf m.abs 12) = g at q
  refine q_asg (v := natV g) (ev_callV (ea_two (ev_auto T ob (ev_var (v := .ref md) (i := 0) rfl)) (ev_op (ev_c (v := .int 12)) (ev_c (v := .int 1)) rv_I0)) fun H1 e1 Q1 q1 => ⟨_, _, rfl, a, m, rfl, rfl, hA.mono e1, ok, by rw [hg]; exact q1⟩) fun H1 e1 => ?_
  refine s_retP (P := NewP H1 [if g ≤ 12 then (g : Int) else -34]) (evp_if (et_test (ev_leN (b := 12) (ev_var (v := natV g) (i := 1) rfl) ev_cN)) (fun hb => ?_) fun hb => ?_) fun v H2 e2 ⟨p, ev, hn, hp⟩ => q v H2 (e1.trans e2) ⟨p, ev, fresh_back e1 hn, hp⟩
  · rw [if_pos (of_decide_eq_true hb)]
    exact evp_one (ev_var (v := natV g) (i := 1) rfl)
  · rw [if_neg (of_decide_eq_false hb)]
    exact evp_one ev_m
theorem pure_Module_witness (T : Txt K mg ad) (vs : List V) (H : Hp) (Q : VK) (E : XK) (h : sp_Module_witness P w K ad vs H Q E) : t_Module_witness P w K ad { nx := fun _ H' => Q .non H', rt := Q } (start N_Module_witness vs) H := by
  obtain ⟨x, _, _, rfl, A, L, B, i, e, rfl, rfl, hM, hB, hi, hz, q⟩ := h
  refine q_asgP (evp_meth (P := RefP fun H' p => H' p = some (.lst (intsV (Kh420.toPostfix e.2)))) (ev_var (v := .ref A.x) (i := 1) rfl) hM.1 (mon_no A (by decide +kernel) (by decide +kernel) (by decide +kernel)) (evpa_ea (ea_one (ev_var (v := natV i) (i := 2) rfl))) fun vs H1 e1 ev Q1 q1 => ?_) fun v H1 e1 ⟨b, ev, hb⟩ => ?_
  · subst ev
    exact ⟨_, _, rfl, A, L, B, i, e, rfl, rfl, hM.mono e1, hB, hi, hz, q1⟩
  · subst ev
    refine s_retP (evp_count (ev_var (v := .ref b) (i := 3) rfl) (ev_var (v := .ref b) (i := 3) rfl) hb hz) fun v H2 e2 ⟨p, ev, hn, hp⟩ => q v H2 (e1.trans e2) ⟨p, ev, fresh_back e1 hn, ?_⟩
    rw [← vals_new]
    exact hp
theorem evp_monoid {tt : TA} (hA : AutAt ad H a m) (ok : m.Ok) (h : EvA tt σ H [.ref a]) : EvP (tMake ad.m (sp_Monoid_init P w K ad) [] E0 tt) σ H (fun v H' => ∃ (A : MA) (B : List Part), v = .ref A.x ∧ MonAt P w ad H' A (Kh420.monoid m.abs) B ∧ EInv m.n m.k (Kh420.monoid m.abs) ∧ Built (Kh420.monoid m.abs) B ∧ (Kh420.monoid m.abs).length ≤ 400) := by
  refine evp_make (evpa_ea h) fun vs H1 e1 ev x dx hx hd ne Q q => ?_
  subst ev
  have A' : AutAt ad (upd (upd H1 dx (.own x)) x (.ins ad.m dx [])) a m := (hA.mono e1).mono ((Ex.new hd).trans (Ex.new (by rw [upd_ne (Ne.symm ne)]; exact hx)))
  have nx : x ≠ a := by
    obtain ⟨d2, wd, h1, _⟩ := hA.mono e1
    exact (ne_of_none h1 hx).symm
  exact ⟨_, _, rfl, x, dx, a, m, rfl, rfl, upd_same, by rw [upd_ne ne]; exact upd_same, A', ok, nx, fun H2 A B ex hM he hb hl fr => q H2 fr ⟨A, B, by rw [ex], hM, he, hb, hl⟩⟩
theorem ask_mon (number index : Nat) : (Kh420.apply m.abs (monCall number index)).1 = m.abs := by
  unfold monCall
  repeat' split
  all_goals rfl
theorem ask_large (number index : Nat) (h : Kh420.isTooLarge m.abs = true) : (Kh420.apply m.abs (monCall number index)).2 = Kh420.single (-75) := by
  unfold monCall
  repeat' split
  all_goals exact if_pos h
theorem inV_nats (l : List Nat) (k : Nat) : inV (.int (k : Int)) (intsV l) = l.contains k := by
  unfold inV intsV
  rw [List.any_map, Bool.eq_iff_iff, List.any_eq_true, List.contains_iff_mem]
  constructor
  · rintro ⟨x, hx, h⟩
    have h : ((x : Int) == (k : Int)) = true := h
    rw [beq_iff_eq] at h
    rw [← Int.ofNat.inj h]; exact hx
  · intro h
    exact ⟨k, h, by show ((k : Int) == (k : Int)) = true; exact beq_self_eq_true _⟩
theorem flat_nats (l : List Nat) : (intsV l).all flatV = true := by
  unfold intsV
  rw [List.all_map, List.all_eq_true]
  intro x _; rfl
theorem filter_range {α : Type} (p : α → Bool) (d : α) : ∀ l : List α, ((List.range l.length).filter fun i => p (l.getD i d)).length = (l.filter p).length
  | [] => rfl
  | x :: l => by
    have ih := filter_range p d l
    rw [List.length_cons, List.range_succ_eq_map, List.filter_cons, List.filter_cons]
    have e : ((List.map Nat.succ (List.range l.length)).filter fun i => p ((x :: l).getD i d)).length = ((List.range l.length).filter fun i => p (l.getD i d)).length := by
      rw [List.filter_map, List.length_map]; rfl
    show (if p x = true then _ else _ : List Nat).length = _
    split
    · rw [List.length_cons, List.length_cons, e, ih]
    · rw [e, ih]
theorem count_nats (l : List Nat) (k : Nat) : (l.map fun (x : Nat) => (x : Int)).count (k : Int) = (l.filter fun x => x == k).length := by
  rw [List.count, List.countP_map, List.countP_eq_length_filter]
  congr 1
  apply List.filter_congr
  intro x _
  show ((x : Int) == (k : Int)) = (x == k)
  rw [Bool.eq_iff_iff, beq_iff_eq, beq_iff_eq]
  exact Int.ofNat_inj
theorem first_at {l : List Nat} {k : Nat} (h : l.contains k = true) : ∃ j : Nat, l[j]? = some k ∧ ∀ i : Nat, i < j → l[i]? ≠ some k := by
  induction l with
  | nil => cases h
  | cons x l ih =>
    by_cases z : x = k
    · subst z; exact ⟨0, rfl, fun i hi => absurd hi (Nat.not_lt_zero _)⟩
    · have h2 : l.contains k = true := by
        rw [List.contains_iff_mem] at h ⊢
        rcases List.mem_cons.mp h with y | y
        · exact absurd y.symm z
        · exact y
      obtain ⟨j, hj, hn⟩ := ih h2
      refine ⟨j + 1, hj, fun i hi => ?_⟩
      cases i with
      | zero => intro y; exact z (Option.some.inj y)
      | succ i => exact hn i (by omega)
theorem ev_index {b : Addr} {l : List Nat} {j k : Nat} (h : Ev ta σ H (.ref b)) (hb : H b = some (.lst (intsV l))) (hj : l[j]? = some k) (hn : ∀ i, i < j → l[i]? ≠ some k) : Ev (tBM K "list" (rIndex K) ta (tCons (tC (.int (k : Int))) tNil)) σ H (natV j) := fun H1 e Q q =>
  h H1 e _ fun H2 e2 => ⟨Or.inl ⟨rfl, _, sq_of ((e.trans e2) _ _ hb)⟩, b, intsV l, .int (k : Int), j, natV k, rfl, rfl, sq_of ((e.trans e2) _ _ hb), rfl, flat_nats l, by unfold intsV; rw [List.getElem?_map, hj]; rfl, by show ((k : Int) == (k : Int)) = true; exact beq_self_eq_true _, fun i z hi hz => by
    unfold intsV at hz
    obtain ⟨y, hy, rfl⟩ := map_get hz
    show ((y : Int) == (k : Int)) = false
    rw [beq_eq_false_iff_ne]
    intro e
    exact hn i hi (by rw [hy, Int.ofNat.inj e]), q H2 e2⟩
theorem pure_Module_about_monoid (T : Txt K mg ad) (vs : List V) (H : Hp) (Q : VK) (E : XK) (h : sp_Module_about_monoid P w K ad vs H Q E) : t_Module_about_monoid P w K ad { nx := fun _ H' => Q .non H', rt := Q } (start N_Module_about_monoid vs) H := by
  obtain ⟨_, _, _, rfl, md, m, number, index, rfl, rfl, rfl, M, hz, d⟩ := h
  obtain ⟨dx, ok, a, ob, hA⟩ := id M
  have n3 := ok.n3
  have au : ∀ {H1 : Hp} {v3 v4 v5 v6}, Ex H H1 → Ev (tFld K (tVar 0) "automaton") [some (.ref md), some (natV number), some (natV index), v3, v4, v5, v6] H1 (.ref a) := fun e => ev_auto T (e _ _ ob) (ev_var (v := .ref md) (i := 0) rfl)
  refine q_asgP (evp_monoid hA ok (ea_one (au (Ex.refl H)))) fun v H1 e1 ⟨A, B, ev, hM, hE, hB, hl⟩ => ?_
  subst ev
  have lg : Kh420.isTooLarge m.abs = decide (100 < (Kh420.monoid m.abs).length) := rfl
  refine q_when (b := Kh420.isTooLarge m.abs) (et_B (ev_methV (ev_var (v := .ref A.x) (i := 3) rfl) hM.1 (mon_no A (by decide +kernel) (by decide +kernel) (by decide +kernel)) ea_nil fun H2 e2 Q1 q1 => ⟨_, rfl, A, _, B, rfl, hM.mono e2, q1⟩)) (fun hb H2 e2 => ?_) fun hb H2 e2 => ?_
  · exact s_fin d M (ask_mon number index) (l := [-75]) (by rw [ask_large number index hb]; rfl) (e1.trans e2) (evp_one ev_m)
  · have nl : ¬ Kh420.isTooLarge m.abs = true := by rw [hb]; exact Bool.false_ne_true
    have e12 := e1.trans e2
    have hM2 := hM.mono e2
    refine q_when (et_test (ev_eqN (b := 11) (ev_var (v := natV number) (i := 1) rfl) ev_cN)) (fun h11 H3 e3 => ?_) fun h11 H3 e3 => ?_
    · have h11 := of_decide_eq_true h11
      subst h11
      have sp : (Kh420.apply m.abs (monCall 11 index)).2 = Kh420.single ((Kh420.monoid m.abs).length : Int) := if_neg nl
      exact s_fin d M rfl (l := [((Kh420.monoid m.abs).length : Int)]) (by rw [sp]; rfl) (e12.trans e3) (evp_one (ev_mlen T (hM2.mono e3) (ev_var (v := .ref A.x) (i := 3) rfl)))
    · have h11 := of_decide_eq_false h11
      have e13 := e12.trans e3
      have hM3 := hM2.mono e3
      refine q_when (et_test (ev_eqN (b := 12) (ev_var (v := natV number) (i := 1) rfl) ev_cN)) (fun h12 H4 e4 => ?_) fun h12 H4 e4 => ?_
      · have h12 := of_decide_eq_true h12
        subst h12
        have hM4 := hM3.mono e4
        have sp : (Kh420.apply m.abs (monCall 12 index)).2 = match (Kh420.monoid m.abs)[index]? with | none => Kh420.single (-2) | some e => Kh420.withValues (m.n * m.n) e.1.flatten := if_neg nl
        have tst := et_test (ev_ltN (ev_var (σ := [some (.ref md), some (natV 12), some (natV index), some (.ref A.x), none, none, none]) (v := natV index) (i := 2) rfl) (ev_mlen (K := K) T hM4 (ev_var (v := .ref A.x) (i := 3) rfl)))
        cases hi : (Kh420.monoid m.abs)[index]? with
        | none =>
          rw [hi] at sp
          rw [decide_eq_false (by have := List.getElem?_eq_none_iff.mp hi; omega)] at tst
          exact s_fin d M rfl (l := [-2]) (by rw [sp]; rfl) (e13.trans e4) (evp_if tst (fun z => nomatch z) fun _ => evp_one ev_m)
        | some e =>
          rw [hi] at sp
          rw [decide_eq_true (List.getElem?_eq_some_iff.mp hi).1] at tst
          refine s_fin d M rfl (l := resV (Kh420.withValues (m.n * m.n) e.1.flatten)) (by rw [sp]) (e13.trans e4) (evp_if tst (fun _ => ?_) fun z => nomatch z)
          obtain ⟨b, hb, hev⟩ := ev_elem (K := K) (σ := [some (.ref md), some (natV 12), some (natV index), some (.ref A.x), none, none, none]) T hM4 hi (ev_var (v := .ref A.x) (i := 3) rfl) (ev_var (v := natV index) (i := 2) rfl)
          exact evp_descr n3 (hE.ok e (List.mem_of_getElem? hi)) (evp_weak (evp_ev hev) fun v H5 e5 ev => ⟨b, ev, hb.mono e5⟩)
      · have h12 := of_decide_eq_false h12
        have e14 := e13.trans e4
        have hM4 := hM3.mono e4
        refine q_asgP (evp_meth (P := RefP fun H' p => H' p = some (.lst (intsV (accs m.abs (Kh420.monoid m.abs))))) (ev_var (v := .ref A.x) (i := 3) rfl) hM4.1 (mon_no A (by decide +kernel) (by decide +kernel) (by decide +kernel)) (evpa_ea (ea_one (au e14))) fun vs H5 e5 ev Q1 q1 => ?_) fun v H5 e5 ⟨b, ev, hb⟩ => ?_
        · subst ev
          exact ⟨_, _, rfl, A, a, m, _, B, rfl, rfl, hM4.mono e5, hA.mono (e14.trans e5), ok, by omega, hE, q1⟩
        subst ev
        have e15 := e14.trans e5
        generalize hac : accs m.abs (Kh420.monoid m.abs) = ac at hb
        have hal : ac.length ≤ 400 := by rw [← hac]; unfold accs; rw [List.length_map]; exact hl
        refine q_when (et_test (ev_eqN (b := 18) (ev_var (v := natV number) (i := 1) rfl) ev_cN)) (fun h18 H6 e6 => ?_) fun h18 H6 e6 => ?_
        · have h18 := of_decide_eq_true h18
          subst h18
          have sp : (Kh420.apply m.abs (monCall 18 index)).2 = Kh420.single (((Kh420.monoid m.abs).filter fun e => Kh420.acceptance m.abs e.1 != 3).length : Int) := if_neg nl
          rw [accepting_eq, hac] at sp
          have lc := el_lcL (K := K) (te := tVar 6) (t := tTest (tOp rNe (tVar 6) (tC (.int 3)))) (tl := tVar 4) (j := 6) (vs := [6]) (σ := [some (.ref md), some (natV 18), some (natV index), some (.ref A.x), some (.ref b), none, none]) (H := H6) (a := b) (xs := intsV ac) (fun i => ac.getD i 3 != 3) (fun i => natV (ac.getD i 3)) (ev_var rfl) (sq_of (e6 _ _ hb)) (by unfold intsV; rw [List.length_map]; omega) (fun _ => rfl) (fun i x H7 e7 hi => by
            unfold intsV at hi
            obtain ⟨y, hy, rfl⟩ := map_get hi
            have ey : ac.getD i 3 = y := by rw [List.getD_eq_getElem?_getD, hy]; rfl
            rw [ey]
            exact et_is (et_test (ev_neN (a := y) (b := 3) (ev_var rfl) ev_cN)) (by rw [Bool.eq_iff_iff]; simp)) (fun i x H7 e7 hi _ => by
            unfold intsV at hi
            obtain ⟨y, hy, rfl⟩ := map_get hi
            have ey : ac.getD i 3 = y := by rw [List.getD_eq_getElem?_getD, hy]; rfl
            rw [ey]
            exact ev_var rfl)
          refine s_fin d M rfl (l := [((ac.filter fun x => x != 3).length : Int)]) (by rw [sp]; rfl) (e15.trans e6) (evp_one (ev_is (ev_lenN lc) ?_))
          unfold given intsV
          rw [List.length_map, List.length_map, filter_range (fun x => x != 3) 3 ac]
        · have h18 := of_decide_eq_false h18
          have e16 := e15.trans e6
          refine q_when (et_test (ev_eqN (b := 19) (ev_var (v := natV number) (i := 1) rfl) ev_cN)) (fun h19 H7 e7 => ?_) fun h19 H7 e7 => ?_
          · have h19 := of_decide_eq_true h19
            subst h19
            have sp : (Kh420.apply m.abs (monCall 19 index)).2 = Kh420.single (((Kh420.monoid m.abs).filter fun e => Kh420.acceptance m.abs e.1 == 0).length : Int) := if_neg nl
            rw [free_eq, hac, ← count_nats ac 0] at sp
            refine s_fin d M rfl (l := [(((ac.map fun (x : Nat) => (x : Int)).count ((0 : Nat) : Int) : Nat) : Int)]) (by rw [sp]; rfl) (e16.trans e7) (evp_one fun H8 e8 Q1 q1 => ?_)
            refine ⟨.ref b, rfl, Or.inl ⟨rfl, _, sq_of (((e6.trans e7).trans e8) _ _ hb)⟩, b, ac.map fun (x : Nat) => (x : Int), 0, rfl, rfl, ?_, q1 H8 (Ex.refl _)⟩
            have := sq_of (K := K) (((e6.trans e7).trans e8) _ _ hb)
            rw [List.map_map]; exact this
          · have h19 := of_decide_eq_false h19
            have e17 := e16.trans e7
            have hlim : Kh420.isLimited m.abs = !ac.contains 2 := by rw [limited_eq, hac]
            refine q_asg (v := .bl (Kh420.isLimited m.abs)) (ev_is (ev_op (ev_c (v := .int 2)) (ev_var (v := .ref b) (i := 4) rfl) (rv_niL (sq_of ((e6.trans e7) _ _ hb)) rfl (flat_nats ac))) (by rw [hlim, ← inV_nats ac 2]; rfl)) fun H8 e8 => ?_
            have e18 := e17.trans e8
            refine q_when (et_test (ev_eqN (b := 13) (ev_var (v := natV number) (i := 1) rfl) ev_cN)) (fun h13 H9 e9 => ?_) fun h13 H9 e9 => ?_
            · have h13 := of_decide_eq_true h13
              subst h13
              have sp : (Kh420.apply m.abs (monCall 13 index)).2 = Kh420.ofBool (Kh420.isLimited m.abs) := if_neg nl
              refine s_fin d M rfl (l := [if Kh420.isLimited m.abs = true then 1 else 0]) (by rw [sp]; rfl) (e18.trans e9) (evp_one (ev_if (et_B (ev_var (v := .bl (Kh420.isLimited m.abs)) (i := 5) rfl)) (fun z => ?_) fun z => ?_))
              · rw [if_pos z]; exact ev_c
              · rw [if_neg (by rw [z]; exact Bool.false_ne_true)]; exact ev_c
            · have h13 := of_decide_eq_false h13
              have e19 := e18.trans e9
              refine q_when (et_test (ev_eqN (b := 14) (ev_var (v := natV number) (i := 1) rfl) ev_cN)) (fun h14 H10 e10 => ?_) fun h14 H10 e10 => ?_
              · have h14 := of_decide_eq_true h14
                subst h14
                have e110 := e19.trans e10
                have sp : (Kh420.apply m.abs (monCall 14 index)).2 = match Kh420.unlimitedWitness m.abs with | none => Kh420.single (-33) | some e => Kh420.withValues (Kh420.toPostfix e).length (Kh420.toPostfix e) := if_neg nl
                have tst := et_B (ev_var (σ := [some (.ref md), some (natV 14), some (natV index), some (.ref A.x), some (.ref b), some (.bl (Kh420.isLimited m.abs)), none]) (H := H10) (v := .bl (Kh420.isLimited m.abs)) (i := 5) rfl)
                cases hli : Kh420.isLimited m.abs with
                | true =>
                  rw [witness_none m.abs hli] at sp
                  rw [hli] at tst
                  exact s_fin d M rfl (l := [-33]) (by rw [sp]; rfl) e110 (evp_if tst (fun _ => evp_one ev_m) fun z => nomatch z)
                | false =>
                  rw [hli] at hlim tst
                  have hc : ac.contains 2 = true := by
                    cases z : ac.contains 2 with
                    | true => rfl
                    | false => rw [z] at hlim; cases hlim
                  obtain ⟨j, hj, hn⟩ := first_at hc
                  obtain ⟨e, he, hw⟩ := witness_eq m.abs (j := j) (by rw [hac]; exact hj) (by rw [hac]; exact hn)
                  rw [hw] at sp
                  have hz' : (Kh420.toPostfix e.2).length ≤ 10000000 := by
                    rw [sp] at hz
                    have hz : (resV (Kh420.withValues (Kh420.toPostfix e.2).length (Kh420.toPostfix e.2))).length ≤ 10000000 := hz
                    have : (resV (Kh420.withValues (Kh420.toPostfix e.2).length (Kh420.toPostfix e.2))).length = (Kh420.toPostfix e.2).length + 1 := by
                      show (_ :: (Kh420.toPostfix e.2).map Int.ofNat).length = _
                      rw [List.length_cons, List.length_map]
                    omega
                  refine s_fin d M rfl (l := resV (Kh420.withValues (Kh420.toPostfix e.2).length (Kh420.toPostfix e.2))) (by rw [sp]) e110 (evp_if tst (fun z => nomatch z) fun _ => ?_)
                  refine newp_vals (R := fun _ _ => True) (evp_meth (ev_var (v := .ref md) (i := 0) rfl) (e110 _ _ ob) (mod_no (by decide +kernel)) (evpa_ea (ea_two (ev_var (v := .ref A.x) (i := 3) rfl) (ev_index (k := 2) (ev_var (v := .ref b) (i := 4) rfl) (((((e6.trans e7).trans e8).trans e9).trans e10) _ _ hb) hj hn))) fun vs H11 e11 ev Q1 q1 => ?_)
                  subst ev
                  exact ⟨_, _, _, rfl, A, _, B, j, e, rfl, rfl, hM4.mono ((((((e5.trans e6).trans e7).trans e8).trans e9).trans e10).trans e11), hB, he, hz', fun v H12 e12 ⟨r, ev, hn, hr⟩ => q1 v H12 e12 ⟨r, ev, fresh_back e11 hn, hr⟩⟩
              · have h14 := of_decide_eq_false h14
                have e110 := e19.trans e10
                have ec : monCall number index = .leastBound := by unfold monCall; rw [if_neg h11, if_neg h12, if_neg h18, if_neg h19, if_neg h13, if_neg h14]
                rw [ec] at d
                have sp : (Kh420.apply m.abs .leastBound).2 = if Kh420.isLimited m.abs = false then Kh420.single (-33) else match (List.range 13).find? fun bound => (Kh420.firstWordAbove m.abs bound).isNone with | none => Kh420.single (-34) | some bound => Kh420.single bound := if_neg nl
                have tst := et_B (ev_var (σ := [some (.ref md), some (natV number), some (natV index), some (.ref A.x), some (.ref b), some (.bl (Kh420.isLimited m.abs)), none]) (H := H10) (v := .bl (Kh420.isLimited m.abs)) (i := 5) rfl)
                cases hli : Kh420.isLimited m.abs with
                | false =>
                  rw [hli, if_pos rfl] at sp
                  rw [hli] at tst
                  exact s_fin d M rfl (l := [-33]) (by rw [sp]; rfl) e110 (evp_if tst (fun z => nomatch z) fun _ => evp_one ev_m)
                | true =>
                  rw [hli, if_neg (fun z => nomatch z), least_bound_eq n3] at sp
                  rw [hli] at tst
                  refine s_fin d M rfl (l := [if greatest m.abs (rowsOf m.abs 12) ≤ 12 then (greatest m.abs (rowsOf m.abs 12) : Int) else -34]) ?_ e110 (evp_if tst (fun _ => ?_) fun z => nomatch z)
                  · rw [sp]
                    by_cases g : greatest m.abs (rowsOf m.abs 12) < 13
                    · rw [if_pos g, if_pos (by omega)]; rfl
                    · rw [if_neg g, if_neg (by omega)]; rfl
                  · refine evp_meth (ev_var (v := .ref md) (i := 0) rfl) (e110 _ _ ob) (mod_no (by decide +kernel)) (evpa_ea ea_nil) fun vs H11 e11 ev Q1 q1 => ?_
                    subst ev
                    exact ⟨_, rfl, md, m, rfl, M.mono (e110.trans e11), fun v H12 e12 ⟨r, ev, hn, hr⟩ => q1 v H12 e12 ⟨r, ev, fresh_back e11 hn, hr⟩⟩
end
end Cr

/-! Readings: the desk. -/
namespace Cr
open PySem PySem.Spec PyProof.Rows L2 Evl Cw
section
variable {P : Program} {w : World} {K : PySem.W.Frag} {mg : Str → Option Value} {base : Heap} {ad : Ad} {σ : L2.St} {H H' : Hp} {ta tb tc te tv : TE} {a : Addr} {m : Aut} {D : Ends} {tz : TS} {Q : VK} {md : Addr}
theorem ev_given {gl : Addr} {g : List Nat} {z : Int} (i : Nat) (hz : z = (i : Int)) (hl : LstAt K H gl g) (h : Ev ta σ H (.ref gl)) (hi : i < g.length) : Ev (tOp (rIxL K) ta (tC (.int z))) σ H (natV (g.getD i 0)) :=
  ev_op h (ev_cN (n := i) (h := hz)) (rv_ixL hl (atI_nat (by unfold intsV; rw [List.getElem?_map, List.getElem?_eq_getElem hi, List.getD_eq_getElem?_getD, List.getElem?_eq_getElem hi]; rfl)))
theorem s_retM {f : Str} {sp : Sp} {E : XK} {tt : TA} {dx : Addr} {v : V} {PA : List V → Hp → Prop} {nx : L2.St → Hp → Prop} (ho : Ev te σ H (.ref md)) (hi : H md = some (.ins ad.o dx (modF v))) (hf : (f == ("automaton" : Str)) = false) (h : EvPA tt σ H PA)
    (hs : ∀ vs H1, Ex H H1 → PA vs H1 → sp (.ref md :: vs) H1 Q E) : tRet (tMeth ad.o f sp [] E te tt) { nx := nx, rt := Q } σ H := ho H (Ex.refl H) _ fun H1 e1 => ⟨md, dx, modF v, rfl, e1 _ _ hi, mod_no hf, h H1 e1 _ fun vs H2 e2 p => by
  rw [List.append_nil]
  exact hs vs H2 (e1.trans e2) p⟩
theorem exec_none {number : Nat} (h : number ≠ 0) (g row : List Nat) : Kh420.execute none (callOf number g row) = (none, Kh420.single (-61)) := by
  unfold callOf
  split
  · exact absurd rfl h
  all_goals rfl
theorem exec_some {number : Nat} (h : number ≠ 0) (a : Au) (g row : List Nat) : Kh420.execute (some a) (callOf number g row) = (some (Kh420.apply a (callOf number g row)).1, (Kh420.apply a (callOf number g row)).2) := by
  unfold callOf
  split
  · exact absurd rfl h
  all_goals rfl
theorem evpa_uTwo {xs : List V} {y : V} (h1 : EvU ta σ H xs) (h2 : Ev tb σ H y) : EvPA (tCons ta (tCons tb tNil)) σ H (fun us H2 => ∃ p, us = [.ref p, y] ∧ H2 p = some (.tup xs)) := fun H1 e Q q =>
  h1 H1 e _ fun p H2 _ e2 hp => h2 H2 (e.trans e2) _ fun H3 e3 => q _ H3 (e2.trans e3) ⟨p, rfl, e3 _ _ hp⟩
theorem evpa_uOne {xs : List V} (h1 : EvU ta σ H xs) : EvPA (tCons ta tNil) σ H (fun us H2 => ∃ p, us = [.ref p] ∧ H2 p = some (.tup xs)) := fun H1 e Q q =>
  h1 H1 e _ fun p H2 _ e2 hp => q _ H2 e2 ⟨p, rfl, hp⟩
theorem pure_done (T : Txt K mg ad) (vs : List V) (H : Hp) (Q : VK) (E : XK) (h : sp_done P w K ad vs H Q E) : t_done P w K ad { nx := fun _ H' => Q .non H', rt := Q } (start N_done vs) H := by
  obtain ⟨_, _, _, _, rfl, md, gl, l, st, number, g, row, rfl, rfl, rfl, rfl, M, hn, hg, hgl, hl, hz, hres, cont⟩ := h
  obtain ⟨dx, v, ob, hv⟩ := id M.obj
  have s0 : ∀ {H1 : Hp}, Ev (tVar 0) [some (.ref md), some (natV number), some (.ref gl), some (.ref l)] H1 (.ref md) := ev_var rfl
  have s1 : ∀ {H1 : Hp}, Ev (tVar 1) [some (.ref md), some (natV number), some (.ref gl), some (.ref l)] H1 (natV number) := ev_var rfl
  have s2 : ∀ {H1 : Hp}, Ev (tVar 2) [some (.ref md), some (natV number), some (.ref gl), some (.ref l)] H1 (.ref gl) := ev_var rfl
  have s3 : ∀ {H1 : Hp}, Ev (tVar 3) [some (.ref md), some (natV number), some (.ref gl), some (.ref l)] H1 (.ref l) := ev_var rfl
  refine q_when (et_test (ev_eqN (b := 0) s1 ev_cN)) (fun h0 H1 e1 => ?_) fun h0 H1 e1 => ?_
  · have h0 := of_decide_eq_true h0
    subst h0
    have hgl : g.length = 2 := hgl
    refine s_retM s0 (e1 _ _ ob) (by decide +kernel) (evpa_ea (ea_two (ev_given 0 rfl (ex_l e1 hg) s2 (by omega)) (ev_given 1 rfl (ex_l e1 hg) s2 (by omega)))) fun vs H2 e2 ev => ?_
    subst ev
    exact ⟨_, _, _, rfl, md, st, _, _, rfl, rfl, rfl, M.mono (e1.trans e2), fun H' p st' k hf hp hM ha => cont H' p st' ((Keep.ex (e1.trans e2)).trans k) (fresh_back (e1.trans e2) hf) hp hM ha⟩
  · have h0 := of_decide_eq_false h0
    refine q_when (et_test (ev_isN (ev_auto T (e1 _ _ ob) s0))) (fun hb H2 e2 => ?_) fun hb H2 e2 => ?_
    · have hst := hv.mp (of_decide_eq_true hb)
      subst hst
      refine s_one ev_m fun p H3 hf e3 hp => cont H3 p none (Keep.ex ((e1.trans e2).trans e3)) (fresh_back (e1.trans e2) hf) ?_ (M.mono ((e1.trans e2).trans e3)) ?_
      · rw [show (none : Option Aut).map Aut.abs = none from rfl, exec_none h0]; exact hp
      · rw [show (none : Option Aut).map Aut.abs = none from rfl, exec_none h0]
    · cases st with
      | none => exact absurd (hv.mpr rfl) (of_decide_eq_false hb)
      | some m =>
        have e12 := e1.trans e2
        have hres : (resV (Kh420.apply m.abs (callOf number g row)).2).length ≤ 10000000 := by
          rw [show (some m : Option Aut).map Aut.abs = some m.abs from rfl, exec_some h0] at hres
          exact hres
        have doing : ∀ {H3 : Hp}, Ex H H3 → Doing ad H3 md m (callOf number g row) Q := fun {H3} e H' p m' k hf hp hM ha => cont H' p (some m') ((Keep.ex e).trans k) (fresh_back e hf) (by
          rw [show (some m : Option Aut).map Aut.abs = some m.abs from rfl, exec_some h0]; exact hp) hM (by
          rw [show (some m : Option Aut).map Aut.abs = some m.abs from rfl, exec_some h0, ← ha]; rfl)
        refine q_when (et_test (ev_eqN (b := 1) s1 ev_cN)) (fun h1 H3 e3 => ?_) fun h1 H3 e3 => ?_
        · have h1 := of_decide_eq_true h1
          subst h1
          have e13 := e12.trans e3
          have hgl : g.length = 4 := hgl
          refine s_retM s0 (e13 _ _ ob) (by decide +kernel) (evpa_uTwo (eu_tup (ea_three (ev_given 0 rfl (ex_l e13 hg) s2 (by omega)) (ev_given 1 rfl (ex_l e13 hg) s2 (by omega)) (ev_given 2 rfl (ex_l e13 hg) s2 (by omega))) (by show 3 ≤ 100000; decide)) (ev_given 3 rfl (ex_l e13 hg) s2 (by omega))) fun vs H4 e4 ⟨b, ev, hb⟩ => ?_
          subst ev
          exact ⟨_, _, _, rfl, md, b, m, _, _, _, _, rfl, rfl, rfl, M.mono (e13.trans e4), hb, doing (e13.trans e4)⟩
        have h1 := of_decide_eq_false h1
        have e13 := e12.trans e3
        refine q_when (et_test (ev_eqN (b := 2) s1 ev_cN)) (fun h2 H4 e4 => ?_) fun h2 H4 e4 => ?_
        · have h2 := of_decide_eq_true h2
          subst h2
          have e14 := e13.trans e4
          have hgl : g.length = 3 := hgl
          refine s_retM s0 (e14 _ _ ob) (by decide +kernel) (evpa_uOne (eu_tup (ea_three (ev_given 0 rfl (ex_l e14 hg) s2 (by omega)) (ev_given 1 rfl (ex_l e14 hg) s2 (by omega)) (ev_given 2 rfl (ex_l e14 hg) s2 (by omega))) (by show 3 ≤ 100000; decide))) fun vs H5 e5 ⟨b, ev, hb⟩ => ?_
          subst ev
          exact ⟨_, _, rfl, md, b, m, _, _, _, rfl, rfl, M.mono (e14.trans e5), hb, doing (e14.trans e5)⟩
        have h2 := of_decide_eq_false h2
        have e14 := e13.trans e4
        refine q_when (et_or (et_test (ev_eqN (b := 3) s1 ev_cN)) fun _ => et_test (ev_eqN (b := 4) s1 ev_cN)) (fun h3 H5 e5 => ?_) fun h3 H5 e5 => ?_
        · have h3 : number = 3 ∨ number = 4 := by
            simp only [Bool.or_eq_true, decide_eq_true_eq] at h3; exact h3
          have e15 := e14.trans e5
          have hgl : g.length = 1 := by rcases h3 with rfl | rfl <;> exact hgl
          refine s_retM s0 (e15 _ _ ob) (by decide +kernel) (evpa_ea (ea_two (ev_eqN (b := 3) s1 ev_cN) (ev_given 0 rfl (ex_l e15 hg) s2 (by omega)))) fun vs H6 e6 ev => ?_
          subst ev
          refine ⟨_, _, _, rfl, md, m, _, _, rfl, rfl, rfl, M.mono (e15.trans e6), ?_⟩
          have ec : callOf number g row = if decide (number = 3) = true then Kh420.Call.setInitial (g.getD 0 0) else .setFinal (g.getD 0 0) := by rcases h3 with rfl | rfl <;> rfl
          rw [← ec]
          exact doing (e15.trans e6)
        have h3 : number ≠ 3 ∧ number ≠ 4 := by
          simp only [Bool.or_eq_false_iff, decide_eq_false_iff_not] at h3; exact h3
        have e15 := e14.trans e5
        refine q_when (et_is (et_test (ev_inU s1 (eu_tup (ea_cons (ev_c (v := .int 5)) (ea_three (ev_c (v := .int 6)) (ev_c (v := .int 7)) (ev_c (v := .int 17)))) (by show 4 ≤ 100000; decide)) rfl rfl)) (b := [5, 6, 7, 17].contains number) (inV_nats [5, 6, 7, 17] number)) (fun h5 H6 e6 => ?_) fun h5 H6 e6 => ?_
        · have e16 := e15.trans e6
          have h5 : number = 5 ∨ number = 6 ∨ number = 7 ∨ number = 17 := by simpa using h5
          refine s_retM s0 (e16 _ _ ob) (by decide +kernel) (evpa_ea (ea_two s1 s3)) fun vs H7 e7 ev => ?_
          subst ev
          have ec : callOf number g row = wordCall number row := by rcases h5 with rfl | rfl | rfl | rfl <;> rfl
          refine ⟨_, _, _, rfl, md, l, m, number, row, rfl, rfl, rfl, M.mono (e16.trans e7), ex_l (e16.trans e7) hl, hz, ?_⟩
          rw [← ec]
          exact doing (e16.trans e7)
        have h5 : ¬ (number = 5 ∨ number = 6 ∨ number = 7 ∨ number = 17) := by simpa using h5
        have e16 := e15.trans e6
        refine q_when (et_test (ev_eqN (b := 8) s1 ev_cN)) (fun h8 H7 e7 => ?_) fun h8 H7 e7 => ?_
        · have h8 := of_decide_eq_true h8
          subst h8
          have e17 := e16.trans e7
          refine s_retM s0 (e17 _ _ ob) (by decide +kernel) (evpa_ea (ea_one s3)) fun vs H8 e8 ev => ?_
          subst ev
          exact ⟨_, _, rfl, md, l, m, row, rfl, rfl, M.mono (e17.trans e8), ex_l (e17.trans e8) hl, hz, doing (e17.trans e8)⟩
        have h8 := of_decide_eq_false h8
        have e17 := e16.trans e7
        refine q_when (et_or (et_test (ev_eqN (b := 9) s1 ev_cN)) fun _ => et_test (ev_eqN (b := 10) s1 ev_cN)) (fun h9 H8 e8 => ?_) fun h9 H8 e8 => ?_
        · have h9 : number = 9 ∨ number = 10 := by
            simp only [Bool.or_eq_true, decide_eq_true_eq] at h9; exact h9
          have e18 := e17.trans e8
          have hgl : g.length = 1 := by rcases h9 with rfl | rfl <;> exact hgl
          refine s_retM s0 (e18 _ _ ob) (by decide +kernel) (evpa_ea (ea_three s1 (ev_given 0 rfl (ex_l e18 hg) s2 (by omega)) s3)) fun vs H9 e9 ev => ?_
          subst ev
          have ec : callOf number g row = if number = 9 then Kh420.Call.unrollExpression (g.getD 0 0) row else .costsOfUnrollings (g.getD 0 0) row := by rcases h9 with rfl | rfl <;> rfl
          refine ⟨_, _, _, _, rfl, md, l, m, number, _, row, rfl, rfl, rfl, rfl, M.mono (e18.trans e9), ex_l (e18.trans e9) hl, hz, ?_⟩
          rw [← ec]
          exact doing (e18.trans e9)
        have h9 : number ≠ 9 ∧ number ≠ 10 := by
          simp only [Bool.or_eq_false_iff, decide_eq_false_iff_not] at h9; exact h9
        have e18 := e17.trans e8
        refine q_when (et_test (ev_eqN (b := 16) s1 ev_cN)) (fun h16 H9 e9 => ?_) fun h16 H9 e9 => ?_
        · have h16 := of_decide_eq_true h16
          subst h16
          have e19 := e18.trans e9
          have hgl : g.length = 1 := hgl
          refine s_retM s0 (e19 _ _ ob) (by decide +kernel) (evpa_ea (ea_one (ev_given 0 rfl (ex_l e19 hg) s2 (by omega)))) fun vs H10 e10 ev => ?_
          subst ev
          exact ⟨_, _, rfl, md, m, _, rfl, rfl, M.mono (e19.trans e10), doing (e19.trans e10)⟩
        have h16 := of_decide_eq_false h16
        have e19 := e18.trans e9
        refine q_when (et_test (ev_eqN (b := 20) s1 ev_cN)) (fun h20 H10 e10 => ?_) fun h20 H10 e10 => ?_
        · have h20 := of_decide_eq_true h20
          subst h20
          have e110 := e19.trans e10
          refine s_retM s0 (e110 _ _ ob) (by decide +kernel) (evpa_ea ea_nil) fun vs H11 e11 ev => ?_
          subst ev
          exact ⟨_, rfl, md, m, rfl, M.mono (e110.trans e11), doing (e110.trans e11)⟩
        have h20 := of_decide_eq_false h20
        have e110 := e19.trans e10
        have hnum : number = 11 ∨ number = 12 ∨ number = 13 ∨ number = 14 ∨ number = 15 ∨ number = 18 ∨ number = 19 := by omega
        refine s_retM s0 (e110 _ _ ob) (by decide +kernel) (evpa_ea (ea_two s1 (ev_if (v := natV (if number = 12 then g.getD 0 0 else 0)) (et_test (ev_eqN (b := 12) s1 ev_cN)) (fun z => ?_) fun z => ?_))) fun vs H11 e11 ev => ?_
        · have z := of_decide_eq_true z
          have hgl : g.length = 1 := by subst z; exact hgl
          rw [if_pos z]
          exact ev_given 0 rfl (ex_l e110 hg) s2 (by omega)
        · rw [if_neg (of_decide_eq_false z)]
          exact ev_cN
        · subst ev
          have ec : callOf number g row = monCall number (if number = 12 then g.getD 0 0 else 0) := by rcases hnum with rfl | rfl | rfl | rfl | rfl | rfl | rfl <;> rfl
          refine ⟨_, _, _, rfl, md, m, number, _, rfl, rfl, rfl, M.mono (e110.trans e11), by rw [← ec]; exact hres, ?_⟩
          rw [← ec]
          exact doing (e110.trans e11)
end
end Cr

/-! The flat list of calls. -/
namespace Cr
open PySem PySem.Spec PyProof.Rows L2 Evl Cw
theorem shape_is {p : Int} {n k : Nat} (h : PyKh420.shape p = some (n, k)) : ∃ number : Nat, number ≤ 20 ∧ p = (number : Int) ∧ n = numbers.getD number 0 ∧ k = (if withRow.contains number = true then 1 else 0) := by
  unfold PyKh420.shape at h
  by_cases h0 : p = 0
  · rw [if_pos h0] at h; cases h; exact ⟨0, by decide, h0, rfl, rfl⟩
  rw [if_neg h0] at h
  by_cases h1 : p = 1
  · rw [if_pos h1] at h; cases h; exact ⟨1, by decide, h1, rfl, rfl⟩
  rw [if_neg h1] at h
  by_cases h2 : p = 2
  · rw [if_pos h2] at h; cases h; exact ⟨2, by decide, h2, rfl, rfl⟩
  rw [if_neg h2] at h
  by_cases h3 : p = 3
  · rw [if_pos h3] at h; cases h; exact ⟨3, by decide, h3, rfl, rfl⟩
  rw [if_neg h3] at h
  by_cases h4 : p = 4
  · rw [if_pos h4] at h; cases h; exact ⟨4, by decide, h4, rfl, rfl⟩
  rw [if_neg h4] at h
  by_cases h5 : p = 5
  · rw [if_pos h5] at h; cases h; exact ⟨5, by decide, h5, rfl, rfl⟩
  rw [if_neg h5] at h
  by_cases h6 : p = 6
  · rw [if_pos h6] at h; cases h; exact ⟨6, by decide, h6, rfl, rfl⟩
  rw [if_neg h6] at h
  by_cases h7 : p = 7
  · rw [if_pos h7] at h; cases h; exact ⟨7, by decide, h7, rfl, rfl⟩
  rw [if_neg h7] at h
  by_cases h8 : p = 8
  · rw [if_pos h8] at h; cases h; exact ⟨8, by decide, h8, rfl, rfl⟩
  rw [if_neg h8] at h
  by_cases h9 : p = 9
  · rw [if_pos h9] at h; cases h; exact ⟨9, by decide, h9, rfl, rfl⟩
  rw [if_neg h9] at h
  by_cases h10 : p = 10
  · rw [if_pos h10] at h; cases h; exact ⟨10, by decide, h10, rfl, rfl⟩
  rw [if_neg h10] at h
  by_cases h11 : p = 11
  · rw [if_pos h11] at h; cases h; exact ⟨11, by decide, h11, rfl, rfl⟩
  rw [if_neg h11] at h
  by_cases h12 : p = 12
  · rw [if_pos h12] at h; cases h; exact ⟨12, by decide, h12, rfl, rfl⟩
  rw [if_neg h12] at h
  by_cases h13 : p = 13
  · rw [if_pos h13] at h; cases h; exact ⟨13, by decide, h13, rfl, rfl⟩
  rw [if_neg h13] at h
  by_cases h14 : p = 14
  · rw [if_pos h14] at h; cases h; exact ⟨14, by decide, h14, rfl, rfl⟩
  rw [if_neg h14] at h
  by_cases h15 : p = 15
  · rw [if_pos h15] at h; cases h; exact ⟨15, by decide, h15, rfl, rfl⟩
  rw [if_neg h15] at h
  by_cases h16 : p = 16
  · rw [if_pos h16] at h; cases h; exact ⟨16, by decide, h16, rfl, rfl⟩
  rw [if_neg h16] at h
  by_cases h17 : p = 17
  · rw [if_pos h17] at h; cases h; exact ⟨17, by decide, h17, rfl, rfl⟩
  rw [if_neg h17] at h
  by_cases h18 : p = 18
  · rw [if_pos h18] at h; cases h; exact ⟨18, by decide, h18, rfl, rfl⟩
  rw [if_neg h18] at h
  by_cases h19 : p = 19
  · rw [if_pos h19] at h; cases h; exact ⟨19, by decide, h19, rfl, rfl⟩
  rw [if_neg h19] at h
  by_cases h20 : p = 20
  · rw [if_pos h20] at h; cases h; exact ⟨20, by decide, h20, rfl, rfl⟩
  rw [if_neg h20] at h
  cases h
theorem whole_id (c : List (List Int)) : PyKh420.whole c = c := by
  unfold PyKh420.whole
  split <;> rfl
theorem whole_all (cs : List (List (List Int))) : cs.map PyKh420.whole = cs := by
  have e : PyKh420.whole = id := funext whole_id
  rw [e, List.map_id]
/-- a call read off the list: its place, its numbers, its row -/
inductive OneCall (r : List Int) : Nat → List Int → List Int → List (List Int) → List Int → Prop
  | plain {number : Nat} : withRow.contains number = false → numbers.getD number 0 ≤ r.length → OneCall r number (r.take (numbers.getD number 0)) [] [(number : Int) :: r.take (numbers.getD number 0)] (r.drop (numbers.getD number 0))
  | row {number : Nat} {q : Nat} {rest : List Int} : withRow.contains number = true → numbers.getD number 0 ≤ r.length → r.drop (numbers.getD number 0) = (q : Int) :: rest → q ≤ rest.length → OneCall r number (r.take (numbers.getD number 0)) (rest.take q) [(number : Int) :: r.take (numbers.getD number 0), rest.take q] (rest.drop q)
theorem calls_step {f : Nat} {p : Int} {r : List Int} {cs : List (List (List Int))} (h : PyFlat.calls PyKh420.shape f (p :: r) = some cs) : ∃ (f' number : Nat) (g row : List Int) (c : List (List Int)) (t : List Int) (cs' : List (List (List Int))), cs = c :: cs' ∧ PyFlat.calls PyKh420.shape f' t = some cs' ∧ number ≤ 20 ∧ p = (number : Int) ∧ OneCall r number g row c t := by
  cases f with
  | zero => cases h
  | succ f =>
    unfold PyFlat.calls at h
    cases hc : PyFlat.call PyKh420.shape (p :: r) with
    | none => rw [hc] at h; cases h
    | some ct =>
      obtain ⟨c, t⟩ := ct
      rw [hc] at h
      have h : (match PyFlat.calls PyKh420.shape f t with | none => none | some cs => some (c :: cs)) = some cs := h
      cases hr : PyFlat.calls PyKh420.shape f t with
      | none => rw [hr] at h; cases h
      | some cs' =>
        rw [hr] at h
        have h : some (c :: cs') = some cs := h
        cases h
        have hc : (match PyKh420.shape p with | none => none | some (n, k) => if r.length < n then none else match PyFlat.rows k (r.drop n) with | none => none | some (xs, t) => some ((p :: r.take n) :: xs, t)) = some (c, t) := hc
        cases hs : PyKh420.shape p with
        | none => rw [hs] at hc; cases hc
        | some nk =>
          obtain ⟨n, k⟩ := nk
          obtain ⟨number, hn, rfl, rfl, rfl⟩ := shape_is hs
          rw [hs] at hc
          have hc : (if r.length < numbers.getD number 0 then none else match PyFlat.rows (if withRow.contains number = true then 1 else 0) (r.drop (numbers.getD number 0)) with
            | none => none
            | some (xs, t) => some (((number : Int) :: r.take (numbers.getD number 0)) :: xs, t)) = some (c, t) := hc
          by_cases hl : r.length < numbers.getD number 0
          · rw [if_pos hl] at hc; cases hc
          · rw [if_neg hl] at hc
            have hl := Nat.le_of_not_lt hl
            cases hw : withRow.contains number with
            | false =>
              rw [hw, if_neg Bool.false_ne_true] at hc
              have hc : some ([(number : Int) :: r.take (numbers.getD number 0)], r.drop (numbers.getD number 0)) = some (c, t) := hc
              cases hc
              exact ⟨f, number, _, _, _, _, cs', rfl, hr, hn, rfl, .plain hw hl⟩
            | true =>
              rw [hw, if_pos rfl] at hc
              cases hd : r.drop (numbers.getD number 0) with
              | nil => rw [hd] at hc; cases hc
              | cons q rest =>
                rw [hd] at hc
                have hc : (match (match (if 0 ≤ q ∧ q.toNat ≤ rest.length then some (rest.take q.toNat, rest.drop q.toNat) else none : Option (List Int × List Int)) with
                    | none => none
                    | some (x, s) => (match (some (([] : List (List Int)), s) : Option (List (List Int) × List Int)) with | none => none | some (xs, t) => some (x :: xs, t))) with
                  | none => none
                  | some (xs, t) => some (((number : Int) :: r.take (numbers.getD number 0)) :: xs, t)) = some (c, t) := hc
                by_cases hq : 0 ≤ q ∧ q.toNat ≤ rest.length
                · rw [if_pos hq] at hc
                  have hc : some ([(number : Int) :: r.take (numbers.getD number 0), rest.take q.toNat], rest.drop q.toNat) = some (c, t) := hc
                  cases hc
                  have eq : q = ((q.toNat : Nat) : Int) := (Int.toNat_of_nonneg hq.1).symm
                  refine ⟨f, number, _, _, _, _, cs', rfl, hr, hn, rfl, .row hw hl ?_ hq.2⟩
                  rw [hd, ← eq]
                · rw [if_neg hq] at hc; cases hc
theorem calls_end {f : Nat} {cs : List (List (List Int))} (h : PyFlat.calls PyKh420.shape f [] = some cs) : cs = [] := by
  cases f <;> (cases h; rfl)
/-! ### within the bounds -/
theorem each_low : ∀ (b : List (Int × Int)) (xs : List Int), PyInside.each b xs = true → xs.length ≤ b.length → (∀ q ∈ b, q.1 = 0) → ∀ x ∈ xs, 0 ≤ x
  | _, [], _, _, _, x, hx => nomatch hx
  | [], _ :: _, _, hl, _, _, _ => absurd hl (Nat.not_succ_le_zero _)
  | (lo, hi) :: b, y :: xs, h, hl, hb, x, hx => by
    have h : (PyInside.within lo hi y && PyInside.each b xs) = true := h
    rw [Bool.and_eq_true] at h
    have h0 : lo = 0 := hb (lo, hi) List.mem_cons_self
    rcases List.mem_cons.mp hx with rfl | hx
    · have := h.1
      unfold PyInside.within at this
      rw [Bool.and_eq_true] at this
      have := of_decide_eq_true this.1
      omega
    · exact each_low b xs h.2 (Nat.le_of_succ_le_succ hl) (fun q hq => hb q (List.mem_cons_of_mem _ hq)) x hx
theorem bound_nums : ∀ i : Fin 21, ((PyKh420.bound (i.val : Int)).1.length == numbers.getD i.val 0 && (PyKh420.bound (i.val : Int)).1.all fun q => q.1 == 0) = true := by decide +kernel
def low20 : List (Int × Int × Nat × Nat) → Bool
  | [(lo, _, _, most)] => lo == 0 && decide (most ≤ 20)
  | _ => false
theorem bound_rows : ∀ i : Fin 21, withRow.contains i.val = true → low20 (PyKh420.bound (i.val : Int)).2 = true := by decide +kernel
theorem one_numbers {r : List Int} {number : Nat} {g row : List Int} {c : List (List Int)} {t : List Int} (h : OneCall r number g row c t) : g.length = numbers.getD number 0 := by
  cases h with
  | plain _ hl => rw [List.length_take]; omega
  | row _ hl _ _ => rw [List.length_take]; omega
theorem one_bounds {r : List Int} {number : Nat} (hn : number ≤ 20) {g row : List Int} {c : List (List Int)} {t : List Int} (h : OneCall r number g row c t) (hb : PyInside.call PyKh420.bound c = true) : (∀ x ∈ g, 0 ≤ x) ∧ (∀ x ∈ row, 0 ≤ x) ∧ row.length ≤ 20 := by
  have hl := one_numbers h
  have bn := bound_nums ⟨number, by omega⟩
  rw [Bool.and_eq_true] at bn
  have b1 : (PyKh420.bound (number : Int)).1.length = numbers.getD number 0 := by simpa using bn.1
  have b2 : ∀ q ∈ (PyKh420.bound (number : Int)).1, q.1 = 0 := fun q hq => by simpa using List.all_eq_true.mp bn.2 q hq
  cases h with
  | plain hw hle =>
    have hb : (PyInside.each (PyKh420.bound (number : Int)).1 (r.take (numbers.getD number 0)) && PyInside.lists (PyKh420.bound (number : Int)).2 []) = true := hb
    rw [Bool.and_eq_true] at hb
    exact ⟨each_low _ _ hb.1 (by rw [hl, b1]; exact Nat.le_refl _) b2, fun x hx => (nomatch hx), Nat.zero_le _⟩
  | @row q rest hw hle hd hq =>
    have hb : (PyInside.each (PyKh420.bound (number : Int)).1 (r.take (numbers.getD number 0)) && PyInside.lists (PyKh420.bound (number : Int)).2 [rest.take q]) = true := hb
    rw [Bool.and_eq_true] at hb
    have br : low20 (PyKh420.bound (number : Int)).2 = true := bound_rows ⟨number, by omega⟩ hw
    have hb2 : PyInside.lists (PyKh420.bound (number : Int)).2 [rest.take q] = true := hb.2
    refine ⟨each_low _ _ hb.1 (by rw [hl, b1]; exact Nat.le_refl _) b2, ?_⟩
    revert br hb2
    generalize (PyKh420.bound (number : Int)).2 = bb
    intro br hb2
    match bb, br, hb2 with
    | [(lo, hi, least, most)], br, hb2 =>
      have br : (lo == 0 && decide (most ≤ 20)) = true := br
      have hb2 : (decide (least ≤ (rest.take q).length) && decide ((rest.take q).length ≤ most) && (rest.take q).all (PyInside.within lo hi) && PyInside.lists [] []) = true := hb2
      simp only [Bool.and_eq_true, beq_iff_eq, decide_eq_true_eq] at br hb2
      obtain ⟨⟨⟨_, h2⟩, h3⟩, _⟩ := hb2
      refine ⟨fun x hx => ?_, by omega⟩
      have := List.all_eq_true.mp h3 x hx
      unfold PyInside.within at this
      rw [Bool.and_eq_true] at this
      have := of_decide_eq_true this.1
      omega
/-- the whole numbers as they are -/
def nat1 (l : List Int) : List Nat := l.map Int.toNat
theorem nat1_V {l : List Int} (h : ∀ x ∈ l, 0 ≤ x) : intsV (nat1 l) = l.map V.int := by
  unfold intsV nat1
  rw [List.map_map]
  apply List.map_congr_left
  intro x hx
  show V.int ((x.toNat : Nat) : Int) = V.int x
  rw [Int.toNat_of_nonneg (h x hx)]
theorem nat1_at (l : List Int) (i : Nat) : (nat1 l).getD i 0 = (l.getD i 0).toNat := by
  unfold nat1
  rw [List.getD_eq_getElem?_getD, List.getD_eq_getElem?_getD, List.getElem?_map]
  cases l[i]? <;> rfl
theorem decode_is {r : List Int} {number : Nat} (hn : number ≤ 20) {g row : List Int} {c : List (List Int)} {t : List Int} (h : OneCall r number g row c t) : Kh420Neutral.decodeCall c = callOf number (nat1 g) (nat1 row) := by
  have key : ∀ (c : List (List Int)), c.getD 0 [] = (number : Int) :: g → (c.getD 1 []).map Int.toNat = nat1 row → Kh420Neutral.decodeCall c = callOf number (nat1 g) (nat1 row) := by
    intro c h0 h1
    unfold Kh420Neutral.decodeCall callOf
    simp only [h0, h1, nat1_at]
    rcases (show number = 0 ∨ number = 1 ∨ number = 2 ∨ number = 3 ∨ number = 4 ∨ number = 5 ∨ number = 6 ∨ number = 7 ∨ number = 8 ∨ number = 9 ∨ number = 10 ∨ number = 11 ∨ number = 12 ∨ number = 13 ∨ number = 14 ∨ number = 15 ∨ number = 16 ∨ number = 17 ∨ number = 18 ∨ number = 19 ∨ number = 20 by omega) with rfl | rfl | rfl | rfl | rfl | rfl | rfl | rfl | rfl | rfl | rfl | rfl | rfl | rfl | rfl | rfl | rfl | rfl | rfl | rfl | rfl <;> rfl
  cases h with
  | plain hw hle => exact key _ rfl rfl
  | row hw hle hd hq => exact key _ rfl rfl
end Cr

/-! Readings: answers. -/
namespace Cr
open PySem PySem.Spec PyProof.Rows L2 Evl Cw
section
variable {P : Program} {w : World} {K : PySem.W.Frag} {mg : Str → Option Value} {base : Heap} {ad : Ad} {σ : L2.St} {H H' : Hp} {ta tb tc te tv : TE} {a : Addr} {m : Aut} {D : Ends} {tz : TS} {Q : VK} {md : Addr}
theorem keep_l {l : Addr} {xs : List V} (k : Keep H H') (h : SqL K H l xs) : SqL K H' l xs := by
  rcases h with (h | ⟨o, h⟩) | h
  · exact Or.inl (Or.inl (k _ _ h rfl))
  · exact Or.inl (Or.inr ⟨o, k _ _ h rfl⟩)
  · exact Or.inr h
theorem Keep.put {fa : Addr} {o : HO} (k : Keep H H') (h : H fa = none) : Keep H (L2.upd H' fa o) := fun b u e p => by
  rw [upd_ne (ne_of_none e h)]
  exact k b u e p
theorem AutAt.updL {fa : Addr} {xs : List V} {o : HO} (hf : H fa = some (.lst xs)) (h : AutAt ad H a m) : AutAt ad (upd H fa o) a m := by
  obtain ⟨dx, wd, h1, h2⟩ := h
  exact ⟨dx, wd, by rw [upd_ne (fun z => by rw [z, hf] at h1; cases h1)]; exact h1, by rw [upd_ne (fun z => by rw [z, hf] at h2; cases h2)]; exact h2⟩
theorem ModAt.updL {fa : Addr} {xs : List V} {o : HO} {st : Option Aut} (hf : H fa = some (.lst xs)) (h : ModAt ad H md st) : ModAt ad (upd H fa o) md st := by
  obtain ⟨dx, h⟩ := h
  cases st with
  | none =>
    have h : H md = some (.ins ad.o dx [("automaton", .non)]) := h
    exact ⟨dx, by show upd H fa o md = _; rw [upd_ne (fun z => by rw [z, hf] at h; cases h)]; exact h⟩
  | some m =>
    obtain ⟨ok, a, h1, h2⟩ := h
    exact ⟨dx, ok, a, by rw [upd_ne (fun z => by rw [z, hf] at h1; cases h1)]; exact h1, h2.updL hf⟩
theorem s_extV {l b : Addr} {xs ys : List V} (hl : H l = some (.lst xs)) (hb : H b = some (.lst ys)) (ha : Ev ta σ H (.ref l)) (h : Ev te σ H (.ref b)) (hz : xs.length + ys.length ≤ sizeLine) (k : ∀ H1, Ex H H1 → D.nx σ (upd H1 l (.lst (xs ++ ys)))) :
    tDrop (tBM K "list" rExtend ta (tCons te tNil)) D σ H := ha H (Ex.refl H) _ fun H1 e1 =>
  ⟨Or.inl ⟨rfl, xs, sq_of (e1 l _ hl)⟩, h H1 e1 _ fun H2 e2 => ⟨l, b, xs, ys, rfl, rfl, e2 l _ (e1 l _ hl), (e1.trans e2) b _ hb, hz, k H2 (e1.trans e2)⟩⟩
theorem q_callM {sp : Sp} {E : XK} {tt : TA} {vs : List V} {i : Nat} (h : EvA tt σ H vs) (k : ∀ H1, Ex H H1 → sp vs H1 (fun v H2 => tz D (σ.set i (some v)) H2) E) : tSeq (tAsg (tCall sp [] E tt) (gName i)) tz D σ H := h H (Ex.refl H) _ fun H1 e => by
  rw [List.append_nil]
  exact k H1 e
/-- one call is done, its answer laid at the end -/
theorem ans_tail (T : Txt K mg ad) {l fa gl rl : Addr} {st : Option Aut} {number place : Nat} {G R : List Nat} {fnd : List Int} {v5 v8 v9 : Option V} (M : ModAt ad H md st) (hn : number ≤ 20) (hg : LstAt K H gl G) (hgl : G.length = numbers.getD number 0) (hr : LstAt K H rl R) (hrl : R.length ≤ 20)
    (hf : H fa = some (.lst (fnd.map V.int))) {res : List Int} (eres : resV (Kh420.execute (st.map Aut.abs) (callOf number G R)).2 = res) (hz : fnd.length + 1 + res.length ≤ 10000000)
    (k : ∀ (H' : Hp) (p : Addr) (st' : Option Aut), (∀ b o, H b = some o → plainO o = true → b ≠ fa → H' b = some o) → H' fa = some (.lst ((fnd ++ (res.length : Int) :: res).map V.int)) → ModAt ad H' md st' → st'.map Aut.abs = (Kh420.execute (st.map Aut.abs) (callOf number G R)).1 →
      D.nx [some (.ref l), some (.ref md), some (.ref fa), some (natV place), some (natV number), v5, some (.ref gl), some (.ref rl), v8, some (.ref p)] H') :
    (tSeq (tAsg (tCall (sp_done P w K ad) [] E0 (tCons (tVar 1) (tCons (tVar 4) (tCons (tVar 6) (tCons (tVar 7) tNil))))) (gName 9)) (tSeq (tDrop (tBM K "list" rAppend (tVar 2) (tCons (tCB (rLenS K) (tCons (tVar 9) tNil)) tNil))) (tDrop (tBM K "list" rExtend (tVar 2) (tCons (tVar 9) tNil))))) D
      [some (.ref l), some (.ref md), some (.ref fa), some (natV place), some (natV number), v5, some (.ref gl), some (.ref rl), v8, v9] H := by
  have args : EvA (tCons (tVar 1) (tCons (tVar 4) (tCons (tVar 6) (tCons (tVar 7) tNil)))) [some (.ref l), some (.ref md), some (.ref fa), some (natV place), some (natV number), v5, some (.ref gl), some (.ref rl), v8, v9] H [.ref md, natV number, .ref gl, .ref rl] := ea_cons (ev_var rfl) (ea_three (ev_var rfl) (ev_var rfl) (ev_var rfl))
  refine q_callM args fun H1 e1 => ?_
  refine ⟨_, _, _, _, rfl, md, gl, rl, st, number, G, R, rfl, rfl, rfl, rfl, M.mono e1, hn, ex_l e1 hg, hgl, ex_l e1 hr, hrl, by rw [eres]; omega, fun H2 p st' kp hnew hp hM ha => ?_⟩
  rw [eres] at hp
  have hf1 := e1 _ _ hf
  have nfp : fa ≠ p := ne_of_none hf1 hnew
  have hf2 := kp _ _ hf1 rfl
  have hp : H2 p = some (.lst (res.map V.int)) := hp
  have l1 : (fnd.map V.int).length = fnd.length := List.length_map ..
  have l2 : (res.map V.int).length = res.length := List.length_map ..
  have hs : sizeLine = 16777216 := by decide
  refine s_appZ (D := { D with nx := _ }) hf2 (ev_var (v := .ref fa) (i := 2) rfl) (ev_len (ev_var (v := .ref p) (i := 9) rfl) (sq_of hp)) (by omega) fun H3 e3 => ?_
  generalize hH4 : upd H3 fa (.lst (fnd.map V.int ++ [V.int ((res.map V.int).length : Int)])) = H4
  have hf4 : H4 fa = some (.lst (fnd.map V.int ++ [V.int ((res.map V.int).length : Int)])) := by rw [← hH4]; exact upd_same
  have hp4 : H4 p = some (.lst (res.map V.int)) := by rw [← hH4, upd_ne (Ne.symm nfp)]; exact e3 _ _ hp
  have M4 : ModAt ad H4 md st' := by rw [← hH4]; exact (hM.mono e3).updL (e3 _ _ hf2)
  have k4 : ∀ b o, H b = some o → plainO o = true → b ≠ fa → H4 b = some o := fun b o hb po hne => by rw [← hH4, upd_ne hne]; exact e3 _ _ (kp _ _ (e1 _ _ hb) po)
  refine s_extV hf4 hp4 (ev_var (v := .ref fa) (i := 2) rfl) (ev_var (v := .ref p) (i := 9) rfl) (by rw [List.length_append, List.length_singleton]; omega) fun H5 e5 => ?_
  refine k _ p st' (fun b o hb po hne => by rw [upd_ne hne]; exact e5 _ _ (k4 b o hb po hne)) ?_ ((M4.mono e5).updL (e5 _ _ hf4)) ha
  rw [upd_same, l2, List.map_append, List.map_cons, List.append_assoc]
  rfl
theorem cutV_nat (xs : List V) {a b : Nat} (hab : a ≤ b) (hb : b ≤ xs.length) : cutV xs (some (a : Int)) (some (b : Int)) = (xs.drop a).take (b - a) := by
  unfold cutV
  rw [HT.sIx_nat, HT.sIx_nat, Nat.min_eq_left hb, Nat.min_eq_left (Nat.le_trans hab hb)]
theorem drop_more {α : Type} {l r : List α} {x : α} {n : Nat} (h : l.drop n = x :: r) (j : Nat) : l.drop (n + 1 + j) = r.drop j := by
  have : l.drop (n + 1 + j) = (l.drop n).drop (1 + j) := by rw [List.drop_drop]; congr 1; omega
  rw [this, h, Nat.add_comm 1 j]; rfl
theorem drop_len {α : Type} {l r : List α} {x : α} {n : Nat} (h : l.drop n = x :: r) : l.length = n + 1 + r.length := by
  have := congrArg List.length h
  rw [List.length_drop, List.length_cons] at this
  omega
theorem told_cons (a : List Int) (l : List (List Int)) : PyFlat.told (a :: l) = ((a.length : Int) :: a) ++ PyFlat.told l := List.flatMap_cons
theorem step_is {S : Option Au} {r : List Int} {number : Nat} (hn : number ≤ 20) {g row : List Int} {c : List (List Int)} {t : List Int} (h : OneCall r number g row c t) : Kh420Neutral.step S c = ((Kh420.execute S (callOf number (nat1 g) (nat1 row))).1, resV (Kh420.execute S (callOf number (nat1 g) (nat1 row))).2) := by
  unfold Kh420Neutral.step
  rw [decode_is hn h]; rfl
theorem flat_get {ns r : List Int} {x : Int} {n : Nat} (h : ns.drop n = x :: r) : (ns.map V.int)[n]? = some (V.int x) := by
  rw [List.getElem?_map]
  have : ns[n]? = (ns.drop n)[0]? := by rw [List.getElem?_drop]; rfl
  rw [this, h]; rfl
theorem pure_answers (T : Txt K mg ad) (vs : List V) (H : Hp) (Q : VK) (E : XK) (h : sp_answers P w K ad vs H Q E) : t_answers P w K ad { nx := fun _ H' => Q .non H', rt := Q } (start N_answers vs) H := by
  obtain ⟨_, rfl, l, ns, rfl, hl, hlen, asked, q⟩ := h
  -- what is asked
  unfold PyKh420.answers_asked at asked
  cases hcs : PyFlat.calls PyKh420.shape ns.length ns with
  | none => rw [hcs] at asked; cases asked
  | some cs =>
  rw [hcs] at asked
  have asked : (!cs.isEmpty && PyFlat.atMost 60 cs && PyInside.calls PyKh420.bound cs && Kh420Neutral.asked (cs.map PyKh420.whole) && PyFlat.short 10000000 (PyKh420.answers ns)) = true := asked
  simp only [Bool.and_eq_true] at asked
  obtain ⟨⟨⟨_, hin⟩, _⟩, hshort⟩ := asked
  have hshort : (PyKh420.answers ns).length ≤ 10000000 := of_decide_eq_true hshort
  have hin : ∀ c ∈ cs, PyInside.call PyKh420.bound c = true := List.all_eq_true.mp hin
  have hans : PyKh420.answers ns = PyFlat.told (PyFlat.played Kh420Neutral.step Kh420Neutral.start cs) := by
    unfold PyKh420.answers PyKh420.calls
    rw [hcs]
    show PyFlat.told (PyFlat.played _ _ (cs.map PyKh420.whole)) = _
    rw [whole_all]
  -- the walk
  refine q_asgP (P := RefP fun H' p => ModAt ad H' p none) (evp_make (evpa_ea ea_nil) fun vs H1 e1 ev x dx hx hd ne Q1 q1 => ?_) fun v H1 e1 ⟨md, ev, hM⟩ => ?_
  · subst ev
    exact ⟨_, rfl, x, dx, rfl, upd_same, by rw [upd_ne ne]; exact upd_same, fun H2 hM fr => q1 H2 fr ⟨x, rfl, hM⟩⟩
  subst ev
  refine q_asgL (el_lst ea_nil (Nat.zero_le _)) fun fa H2 hfa e2 h2 => ?_
  have ffa : H fa = none := fresh_back e1 hfa
  refine q_asg (v := natV 0) ev_cN fun H3 e3 => ?_
  let I : Nat → L2.St → Hp → Prop := fun n σ' H' => ∃ (place f : Nat) (st : Option Aut) (fnd : List Int) (cs' : List (List (List Int))) (v4 v5 v6 v7 v8 v9 : Option V), σ' = [some (.ref l), some (.ref md), some (.ref fa), some (natV place), v4, v5, v6, v7, v8, v9] ∧ Keep H H' ∧ H' fa = some (.lst (fnd.map V.int)) ∧ ModAt ad H' md st ∧
    place ≤ ns.length ∧ PyFlat.calls PyKh420.shape f (ns.drop place) = some cs' ∧ (∀ c ∈ cs', PyInside.call PyKh420.bound c = true) ∧ fnd ++ PyFlat.told (PyFlat.played Kh420Neutral.step (st.map Aut.abs) cs') = PyKh420.answers ns ∧ n = ns.length - place
  refine q_while I (ns.length - 0) ⟨0, ns.length, none, [], cs, none, none, none, none, none, none, rfl, Keep.ex ((e1.trans e2).trans e3), e3 _ _ h2, hM.mono (e2.trans e3), Nat.zero_le _, hcs, hin, by rw [hans]; rfl, rfl⟩ ?_
  rintro n σ' H4 ⟨place, f, st, fnd, cs', v4, v5, v6, v7, v8, v9, rfl, hK, hF, hM4, hpl, hcalls, hins, hsum, rfl⟩
  have hl4 := keep_l hK hl
  have lenL : (ns.map V.int).length = ns.length := List.length_map ..
  refine ⟨_, et_test (ev_ltN (ev_var (v := natV place) (i := 3) rfl) (ev_is (ev_len (ev_var (v := .ref l) (i := 0) rfl) hl4) (w := natV ns.length) (by rw [lenL]; rfl))), fun hb H5 e5 => ?_, fun hb H5 e5 => ?_⟩
  · have hlt : place < ns.length := of_decide_eq_true hb
    obtain ⟨p, r, hpr⟩ : ∃ p r, ns.drop place = p :: r := ⟨_, _, List.drop_eq_getElem_cons hlt⟩
    rw [hpr] at hcalls
    obtain ⟨f', number, g, row, c, t, cs'', rfl, hrest, hn, rfl, one⟩ := calls_step hcalls
    have hc := hins c List.mem_cons_self
    obtain ⟨hg0, hr0, hrl⟩ := one_bounds hn one hc
    have hgl := one_numbers one
    have hll := drop_len hpr
    have hl5 := ex_l e5 hl4
    -- its answer
    have stp := step_is (S := st.map Aut.abs) hn one
    have hplay : PyFlat.played Kh420Neutral.step (st.map Aut.abs) (c :: cs'') = (Kh420Neutral.step (st.map Aut.abs) c).2 :: PyFlat.played Kh420Neutral.step (Kh420Neutral.step (st.map Aut.abs) c).1 cs'' := rfl
    rw [hplay, stp, told_cons] at hsum
    generalize hres : resV (Kh420.execute (st.map Aut.abs) (callOf number (nat1 g) (nat1 row))).2 = res at hsum
    have hsum : fnd ++ (((res.length : Int) :: res) ++ PyFlat.told (PyFlat.played Kh420Neutral.step (Kh420.execute (st.map Aut.abs) (callOf number (nat1 g) (nat1 row))).1 cs'')) = PyKh420.answers ns := hsum
    have hsz : fnd.length + 1 + res.length ≤ 10000000 := by
      have := congrArg List.length hsum
      rw [List.length_append, List.length_append, List.length_cons] at this
      omega
    refine ⟨fun σ2 H2 => ∃ n', n' < ns.length - place ∧ I n' σ2 H2, fun _ _ h => h, ?_⟩
    refine q_asg (v := natV number) (ev_op (ev_var (v := .ref l) (i := 0) rfl) (ev_var (v := natV place) (i := 3) rfl) (rv_ixL hl5 (atI_nat (flat_get hpr)))) fun H6 e6 => ?_
    refine q_asg (v := natV (place + 1)) (ev_addN (b := 1) (ev_var (v := natV place) (i := 3) rfl) ev_cN) fun H7 e7 => ?_
    have hnum : numbers[number]? = some (numbers.getD number 0) := by
      have : number < numbers.length := by show number < 21; omega
      rw [List.getD_eq_getElem?_getD, List.getElem?_eq_getElem this]; rfl
    refine q_asg (v := natV (place + 1 + numbers.getD number 0)) (ev_addN (ev_var (v := natV (place + 1)) (i := 5) rfl) (ev_op (ev_c (v := .ref ad.nums)) (ev_var (v := natV number) (i := 4) rfl) (rv_ixT (T.t_nums _) (atI_nat (by unfold intsV; rw [List.getElem?_map, hnum]; rfl))))) fun H8 e8 => ?_
    have e58 := (e6.trans e7).trans e8
    have hr1 : numbers.getD number 0 ≤ r.length := by cases one <;> assumption
    have hgv : cutV (ns.map V.int) (some ((place + 1 : Nat) : Int)) (some ((place + 1 + numbers.getD number 0 : Nat) : Int)) = g.map V.int := by
      rw [cutV_nat _ (by omega) (by rw [lenL]; omega), ← List.map_drop, ← List.map_take]
      have := drop_more hpr 0
      rw [Nat.add_zero, List.drop_zero] at this
      rw [this, Nat.add_sub_cancel_left]
      cases one <;> rfl
    refine q_asgL (el_sl (K := K) (xs := ns.map V.int) (ev_var (v := .ref l) (i := 0) rfl) (eo_some (i := ((place + 1 : Nat) : Int)) (ev_var (i := 5) rfl)) (eo_some (i := ((place + 1 + numbers.getD number 0 : Nat) : Int)) (ev_var (i := 3) rfl)) (ex_l e58 hl5)) fun gl H9 _ e9 hgl9 => ?_
    rw [hgv, ← nat1_V hg0] at hgl9
    refine q_asgL (el_lst ea_nil (Nat.zero_le _)) fun rl H10 _ e10 hrl10 => ?_
    have hgl10 := e10 _ _ hgl9
    have e510 := (e58.trans e9).trans e10
    have e410 := e5.trans e510
    have hK10 : Keep H H10 := hK.trans (Keep.ex e410)
    have hF10 := e410 _ _ hF
    have hM10 := hM4.mono e410
    have hl10 := ex_l e510 hl5
    have hG : (nat1 g).length = numbers.getD number 0 := by unfold nat1; rw [List.length_map]; exact hgl
    have hR : (nat1 row).length ≤ 20 := by unfold nat1; rw [List.length_map]; exact hrl
    have fin : ∀ {place' : Nat} {H' : Hp} {p : Addr} {st' : Option Aut} {u5 u6 u7 u8 : Option V} {Hm : Hp}, ns.drop place' = t → place < place' → place' ≤ ns.length → Keep H Hm → (∀ b o, Hm b = some o → plainO o = true → b ≠ fa → H' b = some o) → H' fa = some (.lst ((fnd ++ (res.length : Int) :: res).map V.int)) → ModAt ad H' md st' → st'.map Aut.abs = (Kh420.execute (st.map Aut.abs) (callOf number (nat1 g) (nat1 row))).1 →
        ∃ n', n' < ns.length - place ∧ I n' [some (.ref l), some (.ref md), some (.ref fa), some (natV place'), some (natV number), u5, u6, u7, u8, some (.ref p)] H' := by
      intro place' H' p st' u5 u6 u7 u8 Hm ht hlt' hle hKm fr hf' hM' ha
      refine ⟨ns.length - place', by omega, place', f', st', fnd ++ (res.length : Int) :: res, cs'', some (natV number), u5, u6, u7, u8, some (.ref p), rfl, fun b o hb po => fr b o (hKm b o hb po) po (ne_of_none hb ffa), hf', hM', hle, by rw [ht]; exact hrest, fun c hc => hins c (List.mem_cons_of_mem _ hc), ?_, rfl⟩
      rw [ha, List.append_assoc]
      exact hsum
    refine q_when (b := withRow.contains number) (et_test (ev_is (ev_op (ev_var (v := natV number) (i := 4) rfl) (ev_c (v := .ref ad.wrow)) (rv_isT (T.t_wrow _) rfl (flat_nats _))) (by rw [← inV_nats withRow number]; rfl))) (fun hw H11 e11 => ?_) fun hw H11 e11 => ?_
    · cases one with
      | plain hw' _ => rw [hw] at hw'; cases hw'
      | @row q0 rest _ _ hd hq =>
        have hl11 := ex_l e11 hl10
        have hdr : ns.drop (place + 1 + numbers.getD number 0) = (q0 : Int) :: rest := by rw [drop_more hpr, hd]
        have hll2 := drop_len hdr
        refine q_asg (v := natV (place + 1 + numbers.getD number 0 + 1 + q0)) (ev_addN (ev_addN (b := 1) (ev_var (v := natV (place + 1 + numbers.getD number 0)) (i := 3) rfl) ev_cN) (ev_op (ev_var (v := .ref l) (i := 0) rfl) (ev_var (v := natV (place + 1 + numbers.getD number 0)) (i := 3) rfl) (rv_ixL hl11 (atI_nat (flat_get hdr))))) fun H12 e12 => ?_
        have hrv : cutV (ns.map V.int) (some ((place + 1 + numbers.getD number 0 + 1 : Nat) : Int)) (some ((place + 1 + numbers.getD number 0 + 1 + q0 : Nat) : Int)) = (rest.take q0).map V.int := by
          rw [cutV_nat _ (by omega) (by rw [lenL]; omega), ← List.map_drop, ← List.map_take]
          have := drop_more hdr 0
          rw [Nat.add_zero, List.drop_zero] at this
          rw [this, Nat.add_sub_cancel_left]
        refine q_asgL (el_sl (K := K) (xs := ns.map V.int) (ev_var (v := .ref l) (i := 0) rfl) (eo_some (i := ((place + 1 + numbers.getD number 0 + 1 : Nat) : Int)) (ev_addN (b := 1) (ev_var (v := natV (place + 1 + numbers.getD number 0)) (i := 3) rfl) ev_cN)) (eo_some (i := ((place + 1 + numbers.getD number 0 + 1 + q0 : Nat) : Int)) (ev_var (i := 8) rfl)) (ex_l e12 hl11)) fun rl2 H13 _ e13 hrl13 => ?_
        rw [hrv, ← nat1_V hr0] at hrl13
        refine s_asg (v := natV (place + 1 + numbers.getD number 0 + 1 + q0)) (ev_var (i := 8) rfl) fun H14 e14 => ?_
        have e1014 := ((e11.trans e12).trans e13).trans e14
        refine ans_tail T (hM10.mono e1014) hn (sq_of (e1014 _ _ hgl10)) hG (sq_of (e14 _ _ hrl13)) hR (e1014 _ _ hF10) hres hsz fun H' p st' fr hf' hM' ha => ?_
        exact fin (by rw [drop_more hdr]) (by omega) (by omega) (hK10.trans (Keep.ex e1014)) fr hf' hM' ha
    · cases one with
      | row hw' _ _ _ => rw [hw] at hw'; cases hw'
      | plain _ _ =>
        refine ans_tail T (R := nat1 []) (hM10.mono e11) hn (sq_of (e11 _ _ hgl10)) hG (sq_of (e11 _ _ hrl10)) hR (e11 _ _ hF10) hres hsz fun H' p st' fr hf' hM' ha => ?_
        exact fin (by rw [drop_more hpr]) (by omega) (by omega) (hK10.trans (Keep.ex e11)) fr hf' hM' ha
  · have hge : place = ns.length := by have := of_decide_eq_false hb; omega
    subst hge
    rw [List.drop_length] at hcalls
    have := calls_end hcalls
    subst this
    have hs : fnd = PyKh420.answers ns := by rw [← hsum]; exact (List.append_nil _).symm
    refine s_ret (ev_var (v := .ref fa) (i := 2) rfl) fun H6 e6 => q H6 fa ?_
    show H6 fa = some (.lst ((PyKh420.answers ns).map V.int))
    rw [← hs]
    exact (e5.trans e6) _ _ hF
end
end Cr

namespace Cr
open PySem PySem.Spec PyProof.Rows L2 Evl Cw
def lcScope : Expr → Scope
  | .ListComp _ _ sc _ => sc
  | _ => { kind := .function, names := [], isGenerator := false, isCoroutine := false }
def retArg : List Stmt → Expr
  | [.Return (some (.Call _ (e :: _) _ _)) _] => e
  | _ => .Constant .none 0 ⟨0, 0, 0, 0⟩
abbrev blk_matrix_of : Scope := lcScope (retArg (defBody s_matrix_of))
section
variable {P : Program} {w : World} {K : PySem.W.Frag} {mg : Str → Option Value} {base : Heap} {ad : Ad}
theorem ok_Automaton_init (T : Txt K mg ad) (F : InitAt K mg "Automaton" ad.a "Automaton.__init__" s_Automaton_init ["self", "states", "symbols"]) : KI P w K mg base "Automaton" ad.a ["self", "states", "symbols"] 1 (sp_Automaton_init P w K ad) := by
  obtain ⟨f, fd, gf, mk, F, b⟩ := F
  refine ⟨f, fd, gf, mk, b, F.ok sc_Automaton_init (len_sp3 _) (fun cdv A outer s H vs Q E hr h => ?_)⟩
  have hu := hu_of hr
  have hu9 := hu9_of hr
  refine ⟨t_Automaton_init P w K ad, ?_, pure_Automaton_init T vs H Q E h⟩
  exact pss_cons (ps_fld (pv 0) (pv 1) rfl) (pss_cons (ps_fld (pv 0) (pv 2) rfl) (pss_cons (ps_fld (pv 0) (pe_dnewT) rfl) (pss_cons (ps_fld (pv 0) (pe_int) rfl) (pss_one (ps_fld (pv 0) (pe_int) rfl)))))
theorem ok_Automaton_knows (T : Txt K mg ad) (F : MethAt K ad.a "knows" "Automaton.knows" s_Automaton_knows ["self", "symbol", "source", "target"]) : KM P w K mg base ad.a "knows" ["self", "symbol", "source", "target"] 1 (sp_Automaton_knows P w K ad) := by
  obtain ⟨f, fd, mt, F, b⟩ := F
  refine ⟨f, fd, mt, b, F.ok sc_Automaton_knows (len_sp4 _) (fun cdv A outer s H vs Q E hr h => ?_)⟩
  have hu := hu_of hr
  have hu9 := hu9_of hr
  refine ⟨t_Automaton_knows P w K ad, ?_, pure_Automaton_knows T vs H Q E h⟩
  exact pss_one (ps_ret (pe_and (pe_cmpR op_lt (pv 1) (pe_fld (pv 0) rfl) (nomark _)) (pe_and (pe_cmpR op_lt (pv 2) (pe_fld (pv 0) rfl) (nomark _)) (pe_one (pe_cmpR op_lt (pv 3) (pe_fld (pv 0) rfl) (nomark _))))))
theorem ok_Automaton_weight_of (T : Txt K mg ad) (F : MethAt K ad.a "weight_of" "Automaton.weight_of" s_Automaton_weight_of ["self", "symbol", "source", "target"]) : KM P w K mg base ad.a "weight_of" ["self", "symbol", "source", "target"] 1 (sp_Automaton_weight_of P w K ad) := by
  obtain ⟨f, fd, mt, F, b⟩ := F
  refine ⟨f, fd, mt, b, F.ok sc_Automaton_weight_of (len_sp4 _) (fun cdv A outer s H vs Q E hr h => ?_)⟩
  have hu := hu_of hr
  have hu9 := hu9_of hr
  refine ⟨t_Automaton_weight_of P w K ad, ?_, pure_Automaton_weight_of T vs H Q E h⟩
  exact pss_one (ps_ret (pe_dget2 hu (pe_fld (pv 0) rfl) (pe_tup (pa_cons (pv 1) (pa_cons (pv 2) (pa_cons (pv 3) (pa_nil))))) (pe_un un_neg (pe_int)) ⟨rfl, rfl, rfl, rfl⟩))
theorem ok_Automaton_rows_of (T : Txt K mg ad) (F : MethAt K ad.a "rows_of" "Automaton.rows_of" s_Automaton_rows_of ["self", "symbol"]) (h_Automaton_weight_of : KM P w K mg base ad.a "weight_of" ["self", "symbol", "source", "target"] 1 (sp_Automaton_weight_of P w K ad)) : KM P w K mg base ad.a "rows_of" ["self", "symbol"] 2 (sp_Automaton_rows_of P w K ad) := by
  obtain ⟨f_Automaton_weight_of, fd_Automaton_weight_of, m_Automaton_weight_of, b_Automaton_weight_of, G_Automaton_weight_of⟩ := h_Automaton_weight_of
  obtain ⟨f, fd, mt, F, b⟩ := F
  refine ⟨f, fd, mt, b, F.ok sc_Automaton_rows_of (len_sp2 _) (fun cdv A outer s H vs Q E hr h => ?_)⟩
  have hu := hu_of hr
  have hu9 := hu9_of hr
  refine ⟨t_Automaton_rows_of P w K ad, ?_, pure_Automaton_rows_of T vs H Q E h⟩
  exact pss_cons (ps_set (i := 2) sc_Automaton_rows_of.nd rfl (Or.inl rfl) (pe_lst (pa_nil))) (pss_cons (ps_for PassesOwn.never rfl (pi_range1 rfl T.n_range (pa_cons (pe_fld (pv 0) rfl) (pa_nil))) (pg_name (i := 3) sc_Automaton_rows_of.nd rfl (Or.inr rfl)) (pss_one (ps_expr (pe_bm PySem.F.plainAttrs_list PySem.F.slot_list_append PySem.F.type_list_append mt_append (pv 2) (pa_cons (pe_lc (own := [("target", 4)]) (g := gName 4) (tt := tYes) (by rfl) sc_Automaton_rows_of.nd (pi_range1 rfl T.n_range (pa_cons (pe_fld (pv 0) rfl) (pa_nil))) (blkOk_by (N := N_Automaton_rows_of) (sc := defScope s_Automaton_rows_of) (own := [("target", 4)]) (by decide +kernel)) (fun _ _ _ _ _ => pg_name (i := 4) sc_Automaton_rows_of.nd rfl (Or.inl rfl)) (fun _ _ _ _ _ => pts_nil) (fun _ _ _ _ _ => pe_meth (pv 0) T.cl_Automaton m_Automaton_weight_of G_Automaton_weight_of (hr.mono (by decide)) b_Automaton_weight_of .nil pass0 (pa_cons (pv 1) (pa_cons (pv 3) (pa_cons (pv 4) (pa_nil)))))) (pa_nil)))))) (pss_one (ps_ret (pv 2))))
theorem ok_Automaton_is_mask (T : Txt K mg ad) (F : MethAt K ad.a "is_mask" "Automaton.is_mask" s_Automaton_is_mask ["self", "mask"]) : KM P w K mg base ad.a "is_mask" ["self", "mask"] 1 (sp_Automaton_is_mask P w K ad) := by
  obtain ⟨f, fd, mt, F, b⟩ := F
  refine ⟨f, fd, mt, b, F.ok sc_Automaton_is_mask (len_sp2 _) (fun cdv A outer s H vs Q E hr h => ?_)⟩
  have hu := hu_of hr
  have hu9 := hu9_of hr
  refine ⟨t_Automaton_is_mask P w K ad, ?_, pure_Automaton_is_mask T vs H Q E h⟩
  exact pss_one (ps_ret (pe_cmpR op_lt (pv 1) (pe_op op_shl (pe_int) (pe_fld (pv 0) rfl)) (nomark _)))
theorem ok_Automaton_is_word (T : Txt K mg ad) (F : MethAt K ad.a "is_word" "Automaton.is_word" s_Automaton_is_word ["self", "word"]) : KM P w K mg base ad.a "is_word" ["self", "word"] 1 (sp_Automaton_is_word P w K ad) := by
  obtain ⟨f, fd, mt, F, b⟩ := F
  refine ⟨f, fd, mt, b, F.ok sc_Automaton_is_word (len_sp2 _) (fun cdv A outer s H vs Q E hr h => ?_)⟩
  have hu := hu_of hr
  have hu9 := hu9_of hr
  refine ⟨t_Automaton_is_word P w K ad, ?_, pure_Automaton_is_word T vs H Q E h⟩
  exact pss_one (ps_ret (pe_callB (cr_all rfl) rfl T.n_all (by decide +kernel) (pa_cons (pe_lc (own := [("symbol", 2)]) (g := gName 2) (tt := tYes) (by rfl) sc_Automaton_is_word.nd (pi_list (pv 1)) (blkOk_by (N := N_Automaton_is_word) (sc := defScope s_Automaton_is_word) (own := [("symbol", 2)]) (by decide +kernel)) (fun _ _ _ _ _ => pg_name (i := 2) sc_Automaton_is_word.nd rfl (Or.inl rfl)) (fun _ _ _ _ _ => pts_nil) (fun _ _ _ _ _ => pe_cmpR op_lt (pv 2) (pe_fld (pv 0) rfl) (nomark _))) (pa_nil))))
theorem ok_Automaton_first_costs (T : Txt K mg ad) (F : MethAt K ad.a "first_costs" "Automaton.first_costs" s_Automaton_first_costs ["self"]) : KM P w K mg base ad.a "first_costs" ["self"] 1 (sp_Automaton_first_costs P w K ad) := by
  obtain ⟨f, fd, mt, F, b⟩ := F
  refine ⟨f, fd, mt, b, F.ok sc_Automaton_first_costs (len_sp1 _) (fun cdv A outer s H vs Q E hr h => ?_)⟩
  have hu := hu_of hr
  have hu9 := hu9_of hr
  refine ⟨t_Automaton_first_costs P w K ad, ?_, pure_Automaton_first_costs T vs H Q E h⟩
  exact pss_one (ps_ret (pe_callTy call_tuple_of rfl T.n_tuple (by decide +kernel) (pa_cons (pe_lc (own := [("state", 1)]) (g := gName 1) (tt := tYes) (by rfl) sc_Automaton_first_costs.nd (pi_range1 rfl T.n_range (pa_cons (pe_fld (pv 0) rfl) (pa_nil))) (blkOk_by (N := N_Automaton_first_costs) (sc := defScope s_Automaton_first_costs) (own := [("state", 1)]) (by decide +kernel)) (fun _ _ _ _ _ => pg_name (i := 1) sc_Automaton_first_costs.nd rfl (Or.inl rfl)) (fun _ _ _ _ _ => pts_nil) (fun _ _ _ _ _ => pe_ifExp (pt_cmpR op_eq (pe_op op_and (pe_op op_shr (pe_fld (pv 0) rfl) (pv 1)) (pe_int)) (pe_int) (nomark _)) (pe_int) (pe_gi rfl T.c_FAR))) (pa_nil))))
theorem ok_Automaton_accepted_at (T : Txt K mg ad) (F : MethAt K ad.a "accepted_at" "Automaton.accepted_at" s_Automaton_accepted_at ["self", "costs"]) : KM P w K mg base ad.a "accepted_at" ["self", "costs"] 1 (sp_Automaton_accepted_at P w K ad) := by
  obtain ⟨f, fd, mt, F, b⟩ := F
  refine ⟨f, fd, mt, b, F.ok sc_Automaton_accepted_at (len_sp2 _) (fun cdv A outer s H vs Q E hr h => ?_)⟩
  have hu := hu_of hr
  have hu9 := hu9_of hr
  refine ⟨t_Automaton_accepted_at P w K ad, ?_, pure_Automaton_accepted_at T vs H Q E h⟩
  exact pss_cons (ps_set (i := 2) sc_Automaton_accepted_at.nd rfl (Or.inl rfl) (pe_gi rfl T.c_FAR)) (pss_cons (ps_for PassesOwn.never rfl (pi_range1 rfl T.n_range (pa_cons (pe_fld (pv 0) rfl) (pa_nil))) (pg_name (i := 3) sc_Automaton_accepted_at.nd rfl (Or.inl rfl)) (pss_one (ps_if (pt_cmpR op_eq (pe_op op_and (pe_op op_shr (pe_fld (pv 0) rfl) (pv 3)) (pe_int)) (pe_int) (nomark _)) (pss_one (ps_set (i := 2) sc_Automaton_accepted_at.nd rfl (Or.inl rfl) (pe_callB (cr_min2 rfl) rfl T.n_min (by decide +kernel) (pa_cons (pv 2) (pa_cons (pe_ix ix_tup (pv 1) (pv 3) (fun _ _ => rfl)) (pa_nil)))))) (pss_nil)))) (pss_one (ps_ret (pv 2))))
theorem ok_next_costs (T : Txt K mg ad) (F : FunAt K mg "next_costs" "next_costs" s_next_costs ["rows", "costs", "top"]) : KF P w K mg base "next_costs" ["rows", "costs", "top"] 1 (sp_next_costs P w K ad) := by
  obtain ⟨f, fd, gf, F, b⟩ := F
  refine ⟨f, fd, gf, F.kp, b, F.ok sc_next_costs (len_sp3 _) (fun cdv A outer s H vs Q E hr h => ?_)⟩
  have hu := hu_of hr
  have hu9 := hu9_of hr
  refine ⟨t_next_costs P w K ad, ?_, pure_next_costs T vs H Q E h⟩
  exact pss_cons (ps_set (i := 3) sc_next_costs.nd rfl (Or.inl rfl) (pe_lst (pa_nil))) (pss_cons (ps_for PassesOwn.never rfl (pi_range1 rfl T.n_range (pa_cons (pe_callB call_len_seq rfl T.n_len PySem.boot_len (pa_cons (pv 1) (pa_nil))) (pa_nil))) (pg_name (i := 4) sc_next_costs.nd rfl (Or.inl rfl)) (pss_cons (ps_set (i := 5) sc_next_costs.nd rfl (Or.inl rfl) (pe_gi rfl T.c_FAR)) (pss_cons (ps_for PassesOwn.never rfl (pi_range1 rfl T.n_range (pa_cons (pe_callB call_len_seq rfl T.n_len PySem.boot_len (pa_cons (pv 1) (pa_nil))) (pa_nil))) (pg_name (i := 6) sc_next_costs.nd rfl (Or.inl rfl)) (pss_one (ps_if (PW.pt (pw_and (pt_cmpR op_ge (pe_ix ix_list (pe_ix ix_list (pv 0) (pv 6) (fun _ _ => rfl)) (pv 4) (fun _ _ => rfl)) (pe_int) (nomark _)) (pw_and1 (pt_cmpR op_lt (pe_ix ix_tup (pv 1) (pv 6) (fun _ _ => rfl)) (pe_gi rfl T.c_FAR) (nomark _))))) (pss_one (ps_set (i := 5) sc_next_costs.nd rfl (Or.inl rfl) (pe_callB (cr_min3 rfl) rfl T.n_min (by decide +kernel) (pa_cons (pv 5) (pa_cons (pe_op op_add (pe_ix ix_tup (pv 1) (pv 6) (fun _ _ => rfl)) (pe_ix ix_list (pe_ix ix_list (pv 0) (pv 6) (fun _ _ => rfl)) (pv 4) (fun _ _ => rfl))) (pa_cons (pv 2) (pa_nil))))))) (pss_nil)))) (pss_one (ps_expr (pe_bm PySem.F.plainAttrs_list PySem.F.slot_list_append PySem.F.type_list_append mt_append (pv 3) (pa_cons (pv 5) (pa_nil)))))))) (pss_one (ps_ret (pe_callTy call_tuple_of rfl T.n_tuple (by decide +kernel) (pa_cons (pv 3) (pa_nil))))))
theorem ok_cost_of (T : Txt K mg ad) (F : FunAt K mg "cost_of" "cost_of" s_cost_of ["automaton", "word"]) (h_Automaton_accepted_at : KM P w K mg base ad.a "accepted_at" ["self", "costs"] 1 (sp_Automaton_accepted_at P w K ad)) (h_Automaton_first_costs : KM P w K mg base ad.a "first_costs" ["self"] 1 (sp_Automaton_first_costs P w K ad)) (h_Automaton_rows_of : KM P w K mg base ad.a "rows_of" ["self", "symbol"] 2 (sp_Automaton_rows_of P w K ad)) (h_next_costs : KF P w K mg base "next_costs" ["rows", "costs", "top"] 1 (sp_next_costs P w K ad)) : KF P w K mg base "cost_of" ["automaton", "word"] 3 (sp_cost_of P w K ad) := by
  obtain ⟨f_Automaton_accepted_at, fd_Automaton_accepted_at, m_Automaton_accepted_at, b_Automaton_accepted_at, G_Automaton_accepted_at⟩ := h_Automaton_accepted_at
  obtain ⟨f_Automaton_first_costs, fd_Automaton_first_costs, m_Automaton_first_costs, b_Automaton_first_costs, G_Automaton_first_costs⟩ := h_Automaton_first_costs
  obtain ⟨f_Automaton_rows_of, fd_Automaton_rows_of, m_Automaton_rows_of, b_Automaton_rows_of, G_Automaton_rows_of⟩ := h_Automaton_rows_of
  obtain ⟨f_next_costs, fd_next_costs, g_next_costs, k_next_costs, b_next_costs, G_next_costs⟩ := h_next_costs
  obtain ⟨f, fd, gf, F, b⟩ := F
  refine ⟨f, fd, gf, F.kp, b, F.ok sc_cost_of (len_sp2 _) (fun cdv A outer s H vs Q E hr h => ?_)⟩
  have hu := hu_of hr
  have hu9 := hu9_of hr
  refine ⟨t_cost_of P w K ad, ?_, pure_cost_of T vs H Q E h⟩
  exact pss_cons (ps_set (i := 2) sc_cost_of.nd rfl (Or.inl rfl) (pe_meth0 (pv 0) T.cl_Automaton m_Automaton_first_costs G_Automaton_first_costs (hr.mono (by decide)) b_Automaton_first_costs .nil pass0)) (pss_cons (ps_for PassesOwn.never rfl (pi_list (pv 1)) (pg_name (i := 3) sc_cost_of.nd rfl (Or.inl rfl)) (pss_one (ps_set (i := 2) sc_cost_of.nd rfl (Or.inl rfl) (pe_call G_next_costs (hr.mono (by decide)) rfl g_next_costs k_next_costs b_next_costs .nil pass0 (pa_cons (pe_meth (pv 0) T.cl_Automaton m_Automaton_rows_of G_Automaton_rows_of (hr.mono (by decide)) b_Automaton_rows_of .nil pass0 (pa_cons (pv 3) (pa_nil))) (pa_cons (pv 2) (pa_cons (pe_op op_sub (pe_gi rfl T.c_FAR) (pe_int)) (pa_nil)))))))) (pss_cons (ps_set (i := 4) sc_cost_of.nd rfl (Or.inl rfl) (pe_meth (pv 0) T.cl_Automaton m_Automaton_accepted_at G_Automaton_accepted_at (hr.mono (by decide)) b_Automaton_accepted_at .nil pass0 (pa_cons (pv 2) (pa_nil)))) (pss_one (ps_ret (pe_ifExp (pt_cmpR op_lt (pv 4) (pe_gi rfl T.c_FAR) (nomark _)) (pv 4) (pe_un un_neg (pe_int)))))))
theorem ok_entry_of (T : Txt K mg ad) (F : FunAt K mg "entry_of" "entry_of" s_entry_of ["weight"]) : KF P w K mg base "entry_of" ["weight"] 1 (sp_entry_of P w K ad) := by
  obtain ⟨f, fd, gf, F, b⟩ := F
  refine ⟨f, fd, gf, F.kp, b, F.ok sc_entry_of (len_sp1 _) (fun cdv A outer s H vs Q E hr h => ?_)⟩
  have hu := hu_of hr
  have hu9 := hu9_of hr
  refine ⟨t_entry_of P w K ad, ?_, pure_entry_of T vs H Q E h⟩
  exact pss_one (ps_ret (pe_ifExp (pt_cmpR op_lt (pv 0) (pe_int) (nomark _)) (pe_gi rfl T.c_NONE) (pe_callB (cr_min2 rfl) rfl T.n_min (by decide +kernel) (pa_cons (pv 0) (pa_cons (pe_int) (pa_nil))))))
theorem ok_matrix_of (T : Txt K mg ad) (F : FunAt K mg "matrix_of" "matrix_of" s_matrix_of ["rows"]) (h_entry_of : KF P w K mg base "entry_of" ["weight"] 1 (sp_entry_of P w K ad)) : KF P w K mg base "matrix_of" ["rows"] 2 (sp_matrix_of P w K ad) := by
  obtain ⟨f_entry_of, fd_entry_of, g_entry_of, k_entry_of, b_entry_of, G_entry_of⟩ := h_entry_of
  obtain ⟨f, fd, gf, F, b⟩ := F
  refine ⟨f, fd, gf, F.kp, b, F.ok sc_matrix_of (len_sp1 _) (fun cdv A outer s H vs Q E hr h => ?_)⟩
  have hu := hu_of hr
  have hu9 := hu9_of hr
  refine ⟨t_matrix_of P w K ad, ?_, pure_matrix_of T vs H Q E h⟩
  exact pss_one (ps_ret (pe_callTy call_tuple_of rfl T.n_tuple (by decide +kernel) (pa_cons (pe_lc (own := [("row", 1)]) (g := gName 1) (tt := tYes) (by rfl) sc_matrix_of.nd (pi_list (pv 0)) (blkOk_by (N := N_matrix_of) (sc := defScope s_matrix_of) (own := [("row", 1)]) (by decide +kernel)) (fun _ _ _ _ _ => pg_name (i := 1) sc_matrix_of.nd rfl (Or.inl rfl)) (fun _ _ _ _ _ => pts_nil) (fun _ _ _ _ _ => pe_callTy call_tuple_of rfl T.n_tuple (by decide +kernel) (pa_cons (pe_lc (own := [("weight", 2)]) (g := gName 2) (tt := tYes) (by rfl) sc_matrix_of.nd (pi_list (pv 1)) (blkOk_by (N := N_matrix_of) (sc := blk_matrix_of) (own := [("weight", 2)]) (by decide +kernel)) (fun _ _ _ _ _ => pg_name (i := 2) sc_matrix_of.nd rfl (Or.inl rfl)) (fun _ _ _ _ _ => pts_nil) (fun _ _ _ _ _ => pe_call G_entry_of (hr.mono (by decide)) rfl g_entry_of k_entry_of b_entry_of .nil pass0 (pa_cons (pv 2) (pa_nil)))) (pa_nil)))) (pa_nil))))
theorem ok_unit_of (T : Txt K mg ad) (F : FunAt K mg "unit_of" "unit_of" s_unit_of ["size"]) : KF P w K mg base "unit_of" ["size"] 1 (sp_unit_of P w K ad) := by
  obtain ⟨f, fd, gf, F, b⟩ := F
  refine ⟨f, fd, gf, F.kp, b, F.ok sc_unit_of (len_sp1 _) (fun cdv A outer s H vs Q E hr h => ?_)⟩
  have hu := hu_of hr
  have hu9 := hu9_of hr
  refine ⟨t_unit_of P w K ad, ?_, pure_unit_of T vs H Q E h⟩
  exact pss_cons (ps_set (i := 1) sc_unit_of.nd rfl (Or.inl rfl) (pe_lst (pa_nil))) (pss_cons (ps_for PassesOwn.never rfl (pi_range1 rfl T.n_range (pa_cons (pv 0) (pa_nil))) (pg_name (i := 2) sc_unit_of.nd rfl (Or.inr rfl)) (pss_one (ps_expr (pe_bm PySem.F.plainAttrs_list PySem.F.slot_list_append PySem.F.type_list_append mt_append (pv 1) (pa_cons (pe_callTy call_tuple_of rfl T.n_tuple (by decide +kernel) (pa_cons (pe_lc (own := [("right", 3)]) (g := gName 3) (tt := tYes) (by rfl) sc_unit_of.nd (pi_range1 rfl T.n_range (pa_cons (pv 0) (pa_nil))) (blkOk_by (N := N_unit_of) (sc := defScope s_unit_of) (own := [("right", 3)]) (by decide +kernel)) (fun _ _ _ _ _ => pg_name (i := 3) sc_unit_of.nd rfl (Or.inl rfl)) (fun _ _ _ _ _ => pts_nil) (fun _ _ _ _ _ => pe_ifExp (pt_cmpR op_eq (pv 2) (pv 3) (nomark _)) (pe_int) (pe_gi rfl T.c_NONE))) (pa_nil))) (pa_nil)))))) (pss_one (ps_ret (pe_callTy call_tuple_of rfl T.n_tuple (by decide +kernel) (pa_cons (pv 1) (pa_nil))))))
theorem ok_product (T : Txt K mg ad) (F : FunAt K mg "product" "product" s_product ["one", "other"]) : KF P w K mg base "product" ["one", "other"] 1 (sp_product P w K ad) := by
  obtain ⟨f, fd, gf, F, b⟩ := F
  refine ⟨f, fd, gf, F.kp, b, F.ok sc_product (len_sp2 _) (fun cdv A outer s H vs Q E hr h => ?_)⟩
  have hu := hu_of hr
  have hu9 := hu9_of hr
  refine ⟨t_product P w K ad, ?_, pure_product T vs H Q E h⟩
  exact pss_cons (ps_set (i := 2) sc_product.nd rfl (Or.inl rfl) (pe_callB call_len_seq rfl T.n_len PySem.boot_len (pa_cons (pv 0) (pa_nil)))) (pss_cons (ps_set (i := 3) sc_product.nd rfl (Or.inl rfl) (pe_lst (pa_nil))) (pss_cons (ps_for PassesOwn.never rfl (pi_range1 rfl T.n_range (pa_cons (pv 2) (pa_nil))) (pg_name (i := 4) sc_product.nd rfl (Or.inr rfl)) (pss_cons (ps_set (i := 5) sc_product.nd rfl (Or.inl rfl) (pe_lst (pa_nil))) (pss_cons (ps_for PassesOwn.never rfl (pi_range1 rfl T.n_range (pa_cons (pv 2) (pa_nil))) (pg_name (i := 6) sc_product.nd rfl (Or.inr rfl)) (pss_one (ps_expr (pe_bm PySem.F.plainAttrs_list PySem.F.slot_list_append PySem.F.type_list_append mt_append (pv 5) (pa_cons (pe_callB (cr_min rfl) rfl T.n_min (by decide +kernel) (pa_cons (pe_lc (own := [("middle", 7)]) (g := gName 7) (tt := tYes) (by rfl) sc_product.nd (pi_range1 rfl T.n_range (pa_cons (pv 2) (pa_nil))) (blkOk_by (N := N_product) (sc := defScope s_product) (own := [("middle", 7)]) (by decide +kernel)) (fun _ _ _ _ _ => pg_name (i := 7) sc_product.nd rfl (Or.inl rfl)) (fun _ _ _ _ _ => pts_nil) (fun _ _ _ _ _ => pe_callB (cr_max2 rfl) rfl T.n_max (by decide +kernel) (pa_cons (pe_ix ix_tup (pe_ix ix_tup (pv 0) (pv 4) (fun _ _ => rfl)) (pv 7) (fun _ _ => rfl)) (pa_cons (pe_ix ix_tup (pe_ix ix_tup (pv 1) (pv 7) (fun _ _ => rfl)) (pv 6) (fun _ _ => rfl)) (pa_nil))))) (pa_nil))) (pa_nil)))))) (pss_one (ps_expr (pe_bm PySem.F.plainAttrs_list PySem.F.slot_list_append PySem.F.type_list_append mt_append (pv 3) (pa_cons (pe_callTy call_tuple_of rfl T.n_tuple (by decide +kernel) (pa_cons (pv 5) (pa_nil))) (pa_nil)))))))) (pss_one (ps_ret (pe_callTy call_tuple_of rfl T.n_tuple (by decide +kernel) (pa_cons (pv 3) (pa_nil)))))))
theorem ok_is_idempotent (T : Txt K mg ad) (F : FunAt K mg "is_idempotent" "is_idempotent" s_is_idempotent ["one"]) (h_product : KF P w K mg base "product" ["one", "other"] 1 (sp_product P w K ad)) : KF P w K mg base "is_idempotent" ["one"] 2 (sp_is_idempotent P w K ad) := by
  obtain ⟨f_product, fd_product, g_product, k_product, b_product, G_product⟩ := h_product
  obtain ⟨f, fd, gf, F, b⟩ := F
  refine ⟨f, fd, gf, F.kp, b, F.ok sc_is_idempotent (len_sp1 _) (fun cdv A outer s H vs Q E hr h => ?_)⟩
  have hu := hu_of hr
  have hu9 := hu9_of hr
  refine ⟨t_is_idempotent P w K ad, ?_, pure_is_idempotent T vs H Q E h⟩
  exact pss_one (ps_ret (pe_cmpR (op_eqD hr.units) (pe_call G_product (hr.mono (by decide)) rfl g_product k_product b_product .nil pass0 (pa_cons (pv 0) (pa_cons (pv 0) (pa_nil)))) (pv 0) (nomark _)))
theorem ok_looped (T : Txt K mg ad) (F : FunAt K mg "looped" "looped" s_looped ["entry"]) : KF P w K mg base "looped" ["entry"] 1 (sp_looped P w K ad) := by
  obtain ⟨f, fd, gf, F, b⟩ := F
  refine ⟨f, fd, gf, F.kp, b, F.ok sc_looped (len_sp1 _) (fun cdv A outer s H vs Q E hr h => ?_)⟩
  have hu := hu_of hr
  have hu9 := hu9_of hr
  refine ⟨t_looped P w K ad, ?_, pure_looped T vs H Q E h⟩
  exact pss_one (ps_ret (pe_ifExp (pt_cmpR op_eq (pv 0) (pe_int) (nomark _)) (pe_int) (pv 0)))
theorem ok_stabilized (T : Txt K mg ad) (F : FunAt K mg "stabilized" "stabilized" s_stabilized ["one"]) (h_looped : KF P w K mg base "looped" ["entry"] 1 (sp_looped P w K ad)) : KF P w K mg base "stabilized" ["one"] 2 (sp_stabilized P w K ad) := by
  obtain ⟨f_looped, fd_looped, g_looped, k_looped, b_looped, G_looped⟩ := h_looped
  obtain ⟨f, fd, gf, F, b⟩ := F
  refine ⟨f, fd, gf, F.kp, b, F.ok sc_stabilized (len_sp1 _) (fun cdv A outer s H vs Q E hr h => ?_)⟩
  have hu := hu_of hr
  have hu9 := hu9_of hr
  refine ⟨t_stabilized P w K ad, ?_, pure_stabilized T vs H Q E h⟩
  exact pss_cons (ps_set (i := 1) sc_stabilized.nd rfl (Or.inl rfl) (pe_callB call_len_seq rfl T.n_len PySem.boot_len (pa_cons (pv 0) (pa_nil)))) (pss_cons (ps_set (i := 2) sc_stabilized.nd rfl (Or.inl rfl) (pe_lst (pa_nil))) (pss_cons (ps_for PassesOwn.never rfl (pi_range1 rfl T.n_range (pa_cons (pv 1) (pa_nil))) (pg_name (i := 3) sc_stabilized.nd rfl (Or.inr rfl)) (pss_cons (ps_set (i := 4) sc_stabilized.nd rfl (Or.inl rfl) (pe_lst (pa_nil))) (pss_cons (ps_for PassesOwn.never rfl (pi_range1 rfl T.n_range (pa_cons (pv 1) (pa_nil))) (pg_name (i := 5) sc_stabilized.nd rfl (Or.inr rfl)) (pss_cons (ps_setLc (i := 6) (own := [("at", 7)]) (g := gName 7) (tt := tYes) (by rfl) sc_stabilized.nd rfl rfl (sw_true rfl rfl rfl (by decide +kernel)) (pi_range1 rfl T.n_range (pa_cons (pv 1) (pa_nil))) (blkOk_by (N := N_stabilized) (sc := defScope s_stabilized) (own := [("at", 7)]) (by decide +kernel)) (fun _ _ _ _ _ => pg_name (i := 7) sc_stabilized.nd rfl (Or.inl rfl)) (fun _ _ _ _ _ => pts_nil) (fun _ _ _ _ _ => pe_callB (cr_max3 rfl) rfl T.n_max (by decide +kernel) (pa_cons (pe_ix ix_tup (pe_ix ix_tup (pv 0) (pv 3) (fun _ _ => rfl)) (pv 7) (fun _ _ => rfl)) (pa_cons (pe_call G_looped (hr.mono (by decide)) rfl g_looped k_looped b_looped .nil pass0 (pa_cons (pe_ix ix_tup (pe_ix ix_tup (pv 0) (pv 7) (fun _ _ => rfl)) (pv 7) (fun _ _ => rfl)) (pa_nil))) (pa_cons (pe_ix ix_tup (pe_ix ix_tup (pv 0) (pv 7) (fun _ _ => rfl)) (pv 5) (fun _ _ => rfl)) (pa_nil)))))) (pss_one (ps_expr (pe_bm PySem.F.plainAttrs_list PySem.F.slot_list_append PySem.F.type_list_append mt_append (pv 4) (pa_cons (pe_callB (cr_min rfl) rfl T.n_min (by decide +kernel) (pa_cons (pv 6) (pa_nil))) (pa_nil))))))) (pss_one (ps_expr (pe_bm PySem.F.plainAttrs_list PySem.F.slot_list_append PySem.F.type_list_append mt_append (pv 2) (pa_cons (pe_callTy call_tuple_of rfl T.n_tuple (by decide +kernel) (pa_cons (pv 4) (pa_nil))) (pa_nil)))))))) (pss_one (ps_ret (pe_callTy call_tuple_of rfl T.n_tuple (by decide +kernel) (pa_cons (pv 2) (pa_nil)))))))
theorem ok_symbol_matrix (T : Txt K mg ad) (F : FunAt K mg "symbol_matrix" "symbol_matrix" s_symbol_matrix ["automaton", "symbol"]) (h_Automaton_rows_of : KM P w K mg base ad.a "rows_of" ["self", "symbol"] 2 (sp_Automaton_rows_of P w K ad)) (h_matrix_of : KF P w K mg base "matrix_of" ["rows"] 2 (sp_matrix_of P w K ad)) : KF P w K mg base "symbol_matrix" ["automaton", "symbol"] 3 (sp_symbol_matrix P w K ad) := by
  obtain ⟨f_Automaton_rows_of, fd_Automaton_rows_of, m_Automaton_rows_of, b_Automaton_rows_of, G_Automaton_rows_of⟩ := h_Automaton_rows_of
  obtain ⟨f_matrix_of, fd_matrix_of, g_matrix_of, k_matrix_of, b_matrix_of, G_matrix_of⟩ := h_matrix_of
  obtain ⟨f, fd, gf, F, b⟩ := F
  refine ⟨f, fd, gf, F.kp, b, F.ok sc_symbol_matrix (len_sp2 _) (fun cdv A outer s H vs Q E hr h => ?_)⟩
  have hu := hu_of hr
  have hu9 := hu9_of hr
  refine ⟨t_symbol_matrix P w K ad, ?_, pure_symbol_matrix T vs H Q E h⟩
  exact pss_one (ps_ret (pe_call G_matrix_of (hr.mono (by decide)) rfl g_matrix_of k_matrix_of b_matrix_of .nil pass0 (pa_cons (pe_meth (pv 0) T.cl_Automaton m_Automaton_rows_of G_Automaton_rows_of (hr.mono (by decide)) b_Automaton_rows_of .nil pass0 (pa_cons (pv 1) (pa_nil))) (pa_nil))))
theorem ok_word_matrix (T : Txt K mg ad) (F : FunAt K mg "word_matrix" "word_matrix" s_word_matrix ["automaton", "word"]) (h_product : KF P w K mg base "product" ["one", "other"] 1 (sp_product P w K ad)) (h_symbol_matrix : KF P w K mg base "symbol_matrix" ["automaton", "symbol"] 3 (sp_symbol_matrix P w K ad)) (h_unit_of : KF P w K mg base "unit_of" ["size"] 1 (sp_unit_of P w K ad)) : KF P w K mg base "word_matrix" ["automaton", "word"] 4 (sp_word_matrix P w K ad) := by
  obtain ⟨f_product, fd_product, g_product, k_product, b_product, G_product⟩ := h_product
  obtain ⟨f_symbol_matrix, fd_symbol_matrix, g_symbol_matrix, k_symbol_matrix, b_symbol_matrix, G_symbol_matrix⟩ := h_symbol_matrix
  obtain ⟨f_unit_of, fd_unit_of, g_unit_of, k_unit_of, b_unit_of, G_unit_of⟩ := h_unit_of
  obtain ⟨f, fd, gf, F, b⟩ := F
  refine ⟨f, fd, gf, F.kp, b, F.ok sc_word_matrix (len_sp2 _) (fun cdv A outer s H vs Q E hr h => ?_)⟩
  have hu := hu_of hr
  have hu9 := hu9_of hr
  refine ⟨t_word_matrix P w K ad, ?_, pure_word_matrix T vs H Q E h⟩
  exact pss_cons (ps_set (i := 2) sc_word_matrix.nd rfl (Or.inl rfl) (pe_call G_unit_of (hr.mono (by decide)) rfl g_unit_of k_unit_of b_unit_of .nil pass0 (pa_cons (pe_fld (pv 0) rfl) (pa_nil)))) (pss_cons (ps_for PassesOwn.never rfl (pi_list (pv 1)) (pg_name (i := 3) sc_word_matrix.nd rfl (Or.inl rfl)) (pss_one (ps_set (i := 2) sc_word_matrix.nd rfl (Or.inl rfl) (pe_call G_product (hr.mono (by decide)) rfl g_product k_product b_product .nil pass0 (pa_cons (pv 2) (pa_cons (pe_call G_symbol_matrix (hr.mono (by decide)) rfl g_symbol_matrix k_symbol_matrix b_symbol_matrix .nil pass0 (pa_cons (pv 0) (pa_cons (pv 3) (pa_nil)))) (pa_nil))))))) (pss_one (ps_ret (pv 2))))
theorem ok_described (T : Txt K mg ad) (F : FunAt K mg "described" "described" s_described ["matrix"]) : KF P w K mg base "described" ["matrix"] 1 (sp_described P w K ad) := by
  obtain ⟨f, fd, gf, F, b⟩ := F
  refine ⟨f, fd, gf, F.kp, b, F.ok sc_described (len_sp1 _) (fun cdv A outer s H vs Q E hr h => ?_)⟩
  have hu := hu_of hr
  have hu9 := hu9_of hr
  refine ⟨t_described P w K ad, ?_, pure_described T vs H Q E h⟩
  exact pss_cons (ps_set (i := 1) sc_described.nd rfl (Or.inl rfl) (pe_lst (pa_cons (pe_op op_mul (pe_callB call_len_seq rfl T.n_len PySem.boot_len (pa_cons (pv 0) (pa_nil))) (pe_callB call_len_seq rfl T.n_len PySem.boot_len (pa_cons (pv 0) (pa_nil)))) (pa_nil)))) (pss_cons (ps_for PassesOwn.never rfl (pi_tup (pv 0)) (pg_name (i := 2) sc_described.nd rfl (Or.inl rfl)) (pss_one (ps_expr (pe_bm PySem.F.plainAttrs_list PySem.F.slot_list_extend PySem.F.type_list_extend mt_extend (pv 1) (pa_cons (pe_callTy call_list_of rfl T.n_list (by decide +kernel) (pa_cons (pv 2) (pa_nil))) (pa_nil)))))) (pss_one (ps_ret (pv 1))))
theorem ok_acceptance (T : Txt K mg ad) (F : FunAt K mg "acceptance" "acceptance" s_acceptance ["automaton", "matrix"]) : KF P w K mg base "acceptance" ["automaton", "matrix"] 1 (sp_acceptance P w K ad) := by
  obtain ⟨f, fd, gf, F, b⟩ := F
  refine ⟨f, fd, gf, F.kp, b, F.ok sc_acceptance (len_sp2 _) (fun cdv A outer s H vs Q E hr h => ?_)⟩
  have hu := hu_of hr
  have hu9 := hu9_of hr
  refine ⟨t_acceptance P w K ad, ?_, pure_acceptance T vs H Q E h⟩
  exact pss_cons (ps_set (i := 2) sc_acceptance.nd rfl (Or.inl rfl) (pe_gi rfl T.c_NONE)) (pss_cons (ps_for PassesOwn.never rfl (pi_range1 rfl T.n_range (pa_cons (pe_fld (pv 0) rfl) (pa_nil))) (pg_name (i := 3) sc_acceptance.nd rfl (Or.inl rfl)) (pss_one (ps_for PassesOwn.never rfl (pi_range1 rfl T.n_range (pa_cons (pe_fld (pv 0) rfl) (pa_nil))) (pg_name (i := 4) sc_acceptance.nd rfl (Or.inl rfl)) (pss_one (ps_if (PW.pt (pw_and (pt_cmpR op_eq (pe_op op_and (pe_op op_shr (pe_fld (pv 0) rfl) (pv 3)) (pe_int)) (pe_int) (nomark _)) (pw_and1 (pt_cmpR op_eq (pe_op op_and (pe_op op_shr (pe_fld (pv 0) rfl) (pv 4)) (pe_int)) (pe_int) (nomark _))))) (pss_one (ps_set (i := 2) sc_acceptance.nd rfl (Or.inl rfl) (pe_callB (cr_min2 rfl) rfl T.n_min (by decide +kernel) (pa_cons (pv 2) (pa_cons (pe_ix ix_tup (pe_ix ix_tup (pv 1) (pv 3) (fun _ _ => rfl)) (pv 4) (fun _ _ => rfl)) (pa_nil)))))) (pss_nil)))))) (pss_one (ps_ret (pv 2))))
theorem ok_is_expression (T : Txt K mg ad) (F : FunAt K mg "is_expression" "is_expression" s_is_expression ["automaton", "row"]) : KF P w K mg base "is_expression" ["automaton", "row"] 1 (sp_is_expression P w K ad) := by
  obtain ⟨f, fd, gf, F, b⟩ := F
  refine ⟨f, fd, gf, F.kp, b, F.ok sc_is_expression (len_sp2 _) (fun cdv A outer s H vs Q E hr h => ?_)⟩
  have hu := hu_of hr
  have hu9 := hu9_of hr
  refine ⟨t_is_expression P w K ad, ?_, pure_is_expression T vs H Q E h⟩
  exact pss_cons (ps_set (i := 2) sc_is_expression.nd rfl (Or.inl rfl) (pe_int)) (pss_cons (ps_for PassesOwn.never rfl (pi_list (pv 1)) (pg_name (i := 3) sc_is_expression.nd rfl (Or.inl rfl)) (pss_one (ps_if (pt_cmpR op_lt (pv 3) (pe_fld (pv 0) rfl) (nomark _)) (pss_one (ps_set (i := 2) sc_is_expression.nd rfl (Or.inl rfl) (pe_op op_add (pv 2) (pe_int)))) (pss_one (ps_if (PW.pt (pw_and (pt_cmpR op_eq (pv 3) (pe_gi rfl T.c_JOIN) (nomark _)) (pw_and1 (pt_cmpR op_ge (pv 2) (pe_int) (nomark _))))) (pss_one (ps_set (i := 2) sc_is_expression.nd rfl (Or.inl rfl) (pe_op op_sub (pv 2) (pe_int)))) (pss_one (ps_if (PW.pt (pw_or (pt_cmpR op_ne (pv 3) (pe_gi rfl T.c_AGAIN) (nomark _)) (pw_or1 (pt_cmpR op_lt (pv 2) (pe_int) (nomark _))))) (pss_one (ps_ret (pe_bl))) (pss_nil)))))))) (pss_one (ps_ret (pe_cmpR op_eq (pv 2) (pe_int) (nomark _)))))
theorem ok_value_of (T : Txt K mg ad) (F : FunAt K mg "value_of" "value_of" s_value_of ["automaton", "row"]) (h_is_idempotent : KF P w K mg base "is_idempotent" ["one"] 2 (sp_is_idempotent P w K ad)) (h_product : KF P w K mg base "product" ["one", "other"] 1 (sp_product P w K ad)) (h_stabilized : KF P w K mg base "stabilized" ["one"] 2 (sp_stabilized P w K ad)) (h_symbol_matrix : KF P w K mg base "symbol_matrix" ["automaton", "symbol"] 3 (sp_symbol_matrix P w K ad)) : KF P w K mg base "value_of" ["automaton", "row"] 4 (sp_value_of P w K ad) := by
  obtain ⟨f_is_idempotent, fd_is_idempotent, g_is_idempotent, k_is_idempotent, b_is_idempotent, G_is_idempotent⟩ := h_is_idempotent
  obtain ⟨f_product, fd_product, g_product, k_product, b_product, G_product⟩ := h_product
  obtain ⟨f_stabilized, fd_stabilized, g_stabilized, k_stabilized, b_stabilized, G_stabilized⟩ := h_stabilized
  obtain ⟨f_symbol_matrix, fd_symbol_matrix, g_symbol_matrix, k_symbol_matrix, b_symbol_matrix, G_symbol_matrix⟩ := h_symbol_matrix
  obtain ⟨f, fd, gf, F, b⟩ := F
  refine ⟨f, fd, gf, F.kp, b, F.ok sc_value_of (len_sp2 _) (fun cdv A outer s H vs Q E hr h => ?_)⟩
  have hu := hu_of hr
  have hu9 := hu9_of hr
  refine ⟨t_value_of P w K ad, ?_, pure_value_of T vs H Q E h⟩
  exact pss_cons (ps_set (i := 2) sc_value_of.nd rfl (Or.inl rfl) (pe_lst (pa_nil))) (pss_cons (ps_for PassesOwn.never rfl (pi_list (pv 1)) (pg_name (i := 3) sc_value_of.nd rfl (Or.inl rfl)) (pss_one (ps_if (pt_cmpR op_eq (pv 3) (pe_gi rfl T.c_JOIN) (nomark _)) (pss_cons (ps_set (i := 4) sc_value_of.nd rfl (Or.inl rfl) (pe_bm0 PySem.F.plainAttrs_list PySem.F.slot_list_pop PySem.F.type_list_pop mt_pop (pv 2))) (pss_cons (ps_set (i := 5) sc_value_of.nd rfl (Or.inl rfl) (pe_bm0 PySem.F.plainAttrs_list PySem.F.slot_list_pop PySem.F.type_list_pop mt_pop (pv 2))) (pss_one (ps_expr (pe_bm PySem.F.plainAttrs_list PySem.F.slot_list_append PySem.F.type_list_append mt_append (pv 2) (pa_cons (pe_ifExp (PW.pt (pw_and (pt_cmpR op_gt (pe_callB call_len_seq rfl T.n_len PySem.boot_len (pa_cons (pv 5) (pa_nil))) (pe_int) (nomark _)) (pw_and1 (pt_cmpR op_gt (pe_callB call_len_seq rfl T.n_len PySem.boot_len (pa_cons (pv 4) (pa_nil))) (pe_int) (nomark _))))) (pe_call G_product (hr.mono (by decide)) rfl g_product k_product b_product .nil pass0 (pa_cons (pv 5) (pa_cons (pv 4) (pa_nil)))) (pe_tup (pa_nil))) (pa_nil))))))) (pss_one (ps_if (pt_cmpR op_eq (pv 3) (pe_gi rfl T.c_AGAIN) (nomark _)) (pss_cons (ps_set (i := 6) sc_value_of.nd rfl (Or.inl rfl) (pe_bm0 PySem.F.plainAttrs_list PySem.F.slot_list_pop PySem.F.type_list_pop mt_pop (pv 2))) (pss_one (ps_expr (pe_bm PySem.F.plainAttrs_list PySem.F.slot_list_append PySem.F.type_list_append mt_append (pv 2) (pa_cons (pe_ifExp (PW.pt (pw_and (pt_cmpR op_gt (pe_callB call_len_seq rfl T.n_len PySem.boot_len (pa_cons (pv 6) (pa_nil))) (pe_int) (nomark _)) (pw_and1 (pt_val (pe_call G_is_idempotent (hr.mono (by decide)) rfl g_is_idempotent k_is_idempotent b_is_idempotent .nil pass0 (pa_cons (pv 6) (pa_nil))))))) (pe_call G_stabilized (hr.mono (by decide)) rfl g_stabilized k_stabilized b_stabilized .nil pass0 (pa_cons (pv 6) (pa_nil))) (pe_tup (pa_nil))) (pa_nil)))))) (pss_one (ps_expr (pe_bm PySem.F.plainAttrs_list PySem.F.slot_list_append PySem.F.type_list_append mt_append (pv 2) (pa_cons (pe_call G_symbol_matrix (hr.mono (by decide)) rfl g_symbol_matrix k_symbol_matrix b_symbol_matrix .nil pass0 (pa_cons (pv 0) (pa_cons (pv 3) (pa_nil)))) (pa_nil)))))))))) (pss_one (ps_ret (pe_ix ix_list (pv 2) (pe_int) (fun _ _ => rfl)))))
theorem ok_length_of (T : Txt K mg ad) (F : FunAt K mg "length_of" "length_of" s_length_of ["row", "count"]) : KF P w K mg base "length_of" ["row", "count"] 1 (sp_length_of P w K ad) := by
  obtain ⟨f, fd, gf, F, b⟩ := F
  refine ⟨f, fd, gf, F.kp, b, F.ok sc_length_of (len_sp2 _) (fun cdv A outer s H vs Q E hr h => ?_)⟩
  have hu := hu_of hr
  have hu9 := hu9_of hr
  refine ⟨t_length_of P w K ad, ?_, pure_length_of T vs H Q E h⟩
  exact pss_cons (ps_set (i := 2) sc_length_of.nd rfl (Or.inl rfl) (pe_lst (pa_nil))) (pss_cons (ps_for PassesOwn.never rfl (pi_list (pv 0)) (pg_name (i := 3) sc_length_of.nd rfl (Or.inl rfl)) (pss_one (ps_if (pt_cmpR op_eq (pv 3) (pe_gi rfl T.c_JOIN) (nomark _)) (pss_cons (ps_set (i := 4) sc_length_of.nd rfl (Or.inl rfl) (pe_bm0 PySem.F.plainAttrs_list PySem.F.slot_list_pop PySem.F.type_list_pop mt_pop (pv 2))) (pss_cons (ps_set (i := 5) sc_length_of.nd rfl (Or.inl rfl) (pe_bm0 PySem.F.plainAttrs_list PySem.F.slot_list_pop PySem.F.type_list_pop mt_pop (pv 2))) (pss_one (ps_expr (pe_bm PySem.F.plainAttrs_list PySem.F.slot_list_append PySem.F.type_list_append mt_append (pv 2) (pa_cons (pe_callB (cr_min2 rfl) rfl T.n_min (by decide +kernel) (pa_cons (pe_gi rfl T.c_TOO_LONG) (pa_cons (pe_op op_add (pv 5) (pv 4)) (pa_nil)))) (pa_nil))))))) (pss_one (ps_if (pt_cmpR op_eq (pv 3) (pe_gi rfl T.c_AGAIN) (nomark _)) (pss_one (ps_expr (pe_bm PySem.F.plainAttrs_list PySem.F.slot_list_append PySem.F.type_list_append mt_append (pv 2) (pa_cons (pe_callB (cr_min2 rfl) rfl T.n_min (by decide +kernel) (pa_cons (pe_gi rfl T.c_TOO_LONG) (pa_cons (pe_op op_mul (pv 1) (pe_bm0 PySem.F.plainAttrs_list PySem.F.slot_list_pop PySem.F.type_list_pop mt_pop (pv 2))) (pa_nil)))) (pa_nil))))) (pss_one (ps_expr (pe_bm PySem.F.plainAttrs_list PySem.F.slot_list_append PySem.F.type_list_append mt_append (pv 2) (pa_cons (pe_int) (pa_nil)))))))))) (pss_one (ps_ret (pe_ix ix_list (pv 2) (pe_int) (fun _ _ => rfl)))))
theorem ok_unrolled (T : Txt K mg ad) (F : FunAt K mg "unrolled" "unrolled" s_unrolled ["row", "count"]) : KF P w K mg base "unrolled" ["row", "count"] 1 (sp_unrolled P w K ad) := by
  obtain ⟨f, fd, gf, F, b⟩ := F
  refine ⟨f, fd, gf, F.kp, b, F.ok sc_unrolled (len_sp2 _) (fun cdv A outer s H vs Q E hr h => ?_)⟩
  have hu := hu_of hr
  have hu9 := hu9_of hr
  refine ⟨t_unrolled P w K ad, ?_, pure_unrolled T vs H Q E h⟩
  exact pss_cons (ps_set (i := 2) sc_unrolled.nd rfl (Or.inl rfl) (pe_lst (pa_nil))) (pss_cons (ps_for PassesOwn.never rfl (pi_list (pv 0)) (pg_name (i := 3) sc_unrolled.nd rfl (Or.inl rfl)) (pss_one (ps_if (pt_cmpR op_eq (pv 3) (pe_gi rfl T.c_JOIN) (nomark _)) (pss_cons (ps_set (i := 4) sc_unrolled.nd rfl (Or.inl rfl) (pe_bm0 PySem.F.plainAttrs_list PySem.F.slot_list_pop PySem.F.type_list_pop mt_pop (pv 2))) (pss_cons (ps_set (i := 5) sc_unrolled.nd rfl (Or.inl rfl) (pe_bm0 PySem.F.plainAttrs_list PySem.F.slot_list_pop PySem.F.type_list_pop mt_pop (pv 2))) (pss_one (ps_expr (pe_bm PySem.F.plainAttrs_list PySem.F.slot_list_append PySem.F.type_list_append mt_append (pv 2) (pa_cons (pe_slice sl_list (pe_op op_cat (pv 5) (pv 4)) (po_none) (po_some (pe_gi rfl T.c_TOO_LONG))) (pa_nil))))))) (pss_one (ps_if (pt_cmpR op_eq (pv 3) (pe_gi rfl T.c_AGAIN) (nomark _)) (pss_one (ps_expr (pe_bm PySem.F.plainAttrs_list PySem.F.slot_list_append PySem.F.type_list_append mt_append (pv 2) (pa_cons (pe_slice sl_list (pe_op op_rep (pe_bm0 PySem.F.plainAttrs_list PySem.F.slot_list_pop PySem.F.type_list_pop mt_pop (pv 2)) (pv 1)) (po_none) (po_some (pe_gi rfl T.c_TOO_LONG))) (pa_nil))))) (pss_one (ps_expr (pe_bm PySem.F.plainAttrs_list PySem.F.slot_list_append PySem.F.type_list_append mt_append (pv 2) (pa_cons (pe_lst (pa_cons (pv 3) (pa_nil))) (pa_nil)))))))))) (pss_one (ps_ret (pe_ix ix_list (pv 2) (pe_int) (fun _ _ => rfl)))))
theorem ok_Monoid_put (T : Txt K mg ad) (F : MethAt K ad.m "put" "Monoid.put" s_Monoid_put ["self", "matrix", "parts"]) : KM P w K mg base ad.m "put" ["self", "matrix", "parts"] 1 (sp_Monoid_put P w K ad) := by
  obtain ⟨f, fd, mt, F, b⟩ := F
  refine ⟨f, fd, mt, b, F.ok sc_Monoid_put (len_sp3 _) (fun cdv A outer s H vs Q E hr h => ?_)⟩
  have hu := hu_of hr
  have hu9 := hu9_of hr
  refine ⟨t_Monoid_put P w K ad, ?_, pure_Monoid_put T vs H Q E h⟩
  exact pss_one (ps_if (pt_cmp (pc_knNot hu9 (pv 1) (pe_fld (pv 0) rfl))) (pss_cons (ps_knPut hu9 (pe_fld (pv 0) rfl) (pv 1) (pe_bl) rfl) (pss_cons (ps_expr (pe_bm PySem.F.plainAttrs_list PySem.F.slot_list_append PySem.F.type_list_append mt_append (pe_fld (pv 0) rfl) (pa_cons (pv 1) (pa_nil)))) (pss_one (ps_expr (pe_bm PySem.F.plainAttrs_list PySem.F.slot_list_append PySem.F.type_list_append mt_append (pe_fld (pv 0) rfl) (pa_cons (pv 2) (pa_nil))))))) (pss_nil))
theorem ok_Monoid_go_on (T : Txt K mg ad) (F : MethAt K ad.m "go_on" "Monoid.go_on" s_Monoid_go_on ["self", "place"]) (h_Monoid_put : KM P w K mg base ad.m "put" ["self", "matrix", "parts"] 1 (sp_Monoid_put P w K ad)) (h_is_idempotent : KF P w K mg base "is_idempotent" ["one"] 2 (sp_is_idempotent P w K ad)) (h_product : KF P w K mg base "product" ["one", "other"] 1 (sp_product P w K ad)) (h_stabilized : KF P w K mg base "stabilized" ["one"] 2 (sp_stabilized P w K ad)) : KM P w K mg base ad.m "go_on" ["self", "place"] 3 (sp_Monoid_go_on P w K ad) := by
  obtain ⟨f_Monoid_put, fd_Monoid_put, m_Monoid_put, b_Monoid_put, G_Monoid_put⟩ := h_Monoid_put
  obtain ⟨f_is_idempotent, fd_is_idempotent, g_is_idempotent, k_is_idempotent, b_is_idempotent, G_is_idempotent⟩ := h_is_idempotent
  obtain ⟨f_product, fd_product, g_product, k_product, b_product, G_product⟩ := h_product
  obtain ⟨f_stabilized, fd_stabilized, g_stabilized, k_stabilized, b_stabilized, G_stabilized⟩ := h_stabilized
  obtain ⟨f, fd, mt, F, b⟩ := F
  refine ⟨f, fd, mt, b, F.ok sc_Monoid_go_on (len_sp2 _) (fun cdv A outer s H vs Q E hr h => ?_)⟩
  have hu := hu_of hr
  have hu9 := hu9_of hr
  refine ⟨t_Monoid_go_on P w K ad, ?_, pure_Monoid_go_on T vs H Q E h⟩
  exact pss_cons (ps_set (i := 2) sc_Monoid_go_on.nd rfl (Or.inl rfl) (pe_ix ix_list (pe_fld (pv 0) rfl) (pv 1) (fun _ _ => rfl))) (pss_cons (ps_if (pt_val (pe_call G_is_idempotent (hr.mono (by decide)) rfl g_is_idempotent k_is_idempotent b_is_idempotent .nil pass0 (pa_cons (pv 2) (pa_nil)))) (pss_one (ps_expr (pe_meth (pv 0) T.cl_Monoid m_Monoid_put G_Monoid_put (hr.mono (by decide)) b_Monoid_put .nil pass0 (pa_cons (pe_call G_stabilized (hr.mono (by decide)) rfl g_stabilized k_stabilized b_stabilized .nil pass0 (pa_cons (pv 2) (pa_nil))) (pa_cons (pe_tup (pa_cons (pe_gi rfl T.c_AGAIN) (pa_cons (pv 1) (pa_cons (pe_un un_neg (pe_int)) (pa_nil))))) (pa_nil)))))) (pss_nil)) (pss_cons (ps_for PassesOwn.never rfl (pi_range1 rfl T.n_range (pa_cons (pe_op op_add (pv 1) (pe_int)) (pa_nil))) (pg_name (i := 3) sc_Monoid_go_on.nd rfl (Or.inl rfl)) (pss_one (ps_expr (pe_meth (pv 0) T.cl_Monoid m_Monoid_put G_Monoid_put (hr.mono (by decide)) b_Monoid_put .nil pass0 (pa_cons (pe_call G_product (hr.mono (by decide)) rfl g_product k_product b_product .nil pass0 (pa_cons (pv 2) (pa_cons (pe_ix ix_list (pe_fld (pv 0) rfl) (pv 3) (fun _ _ => rfl)) (pa_nil)))) (pa_cons (pe_tup (pa_cons (pe_gi rfl T.c_JOIN) (pa_cons (pv 1) (pa_cons (pv 3) (pa_nil))))) (pa_nil))))))) (pss_one (ps_for PassesOwn.never rfl (pi_range1 rfl T.n_range (pa_cons (pe_op op_add (pv 1) (pe_int)) (pa_nil))) (pg_name (i := 3) sc_Monoid_go_on.nd rfl (Or.inl rfl)) (pss_one (ps_expr (pe_meth (pv 0) T.cl_Monoid m_Monoid_put G_Monoid_put (hr.mono (by decide)) b_Monoid_put .nil pass0 (pa_cons (pe_call G_product (hr.mono (by decide)) rfl g_product k_product b_product .nil pass0 (pa_cons (pe_ix ix_list (pe_fld (pv 0) rfl) (pv 3) (fun _ _ => rfl)) (pa_cons (pv 2) (pa_nil)))) (pa_cons (pe_tup (pa_cons (pe_gi rfl T.c_JOIN) (pa_cons (pv 3) (pa_cons (pv 1) (pa_nil))))) (pa_nil))))))))))
theorem ok_Monoid_init (T : Txt K mg ad) (F : InitAt K mg "Monoid" ad.m "Monoid.__init__" s_Monoid_init ["self", "automaton"]) (h_Monoid_go_on : KM P w K mg base ad.m "go_on" ["self", "place"] 3 (sp_Monoid_go_on P w K ad)) (h_Monoid_put : KM P w K mg base ad.m "put" ["self", "matrix", "parts"] 1 (sp_Monoid_put P w K ad)) (h_symbol_matrix : KF P w K mg base "symbol_matrix" ["automaton", "symbol"] 3 (sp_symbol_matrix P w K ad)) : KI P w K mg base "Monoid" ad.m ["self", "automaton"] 4 (sp_Monoid_init P w K ad) := by
  obtain ⟨f_Monoid_go_on, fd_Monoid_go_on, m_Monoid_go_on, b_Monoid_go_on, G_Monoid_go_on⟩ := h_Monoid_go_on
  obtain ⟨f_Monoid_put, fd_Monoid_put, m_Monoid_put, b_Monoid_put, G_Monoid_put⟩ := h_Monoid_put
  obtain ⟨f_symbol_matrix, fd_symbol_matrix, g_symbol_matrix, k_symbol_matrix, b_symbol_matrix, G_symbol_matrix⟩ := h_symbol_matrix
  obtain ⟨f, fd, gf, mk, F, b⟩ := F
  refine ⟨f, fd, gf, mk, b, F.ok sc_Monoid_init (len_sp2 _) (fun cdv A outer s H vs Q E hr h => ?_)⟩
  have hu := hu_of hr
  have hu9 := hu9_of hr
  refine ⟨t_Monoid_init P w K ad, ?_, pure_Monoid_init T vs H Q E h⟩
  exact pss_cons (ps_fld (pv 0) (pe_lst (pa_nil)) rfl) (pss_cons (ps_fld (pv 0) (pe_lst (pa_nil)) rfl) (pss_cons (ps_fld (pv 0) (pe_knNew) rfl) (pss_cons (ps_for PassesOwn.never rfl (pi_range1 rfl T.n_range (pa_cons (pe_fld (pv 1) rfl) (pa_nil))) (pg_name (i := 2) sc_Monoid_init.nd rfl (Or.inl rfl)) (pss_one (ps_expr (pe_meth (pv 0) T.cl_Monoid m_Monoid_put G_Monoid_put (hr.mono (by decide)) b_Monoid_put .nil pass0 (pa_cons (pe_call G_symbol_matrix (hr.mono (by decide)) rfl g_symbol_matrix k_symbol_matrix b_symbol_matrix .nil pass0 (pa_cons (pv 1) (pa_cons (pv 2) (pa_nil)))) (pa_cons (pe_tup (pa_cons (pv 2) (pa_cons (pe_un un_neg (pe_int)) (pa_cons (pe_un un_neg (pe_int)) (pa_nil))))) (pa_nil))))))) (pss_cons (ps_set (i := 3) sc_Monoid_init.nd rfl (Or.inl rfl) (pe_int)) (pss_one (ps_while PassesOwn.never (PW.pt (pw_and (pt_cmpR op_lt (pv 3) (pe_callB call_len_seq rfl T.n_len PySem.boot_len (pa_cons (pe_fld (pv 0) rfl) (pa_nil))) (nomark _)) (pw_and1 (pt_cmpR op_le (pe_callB call_len_seq rfl T.n_len PySem.boot_len (pa_cons (pe_fld (pv 0) rfl) (pa_nil))) (pe_gi rfl T.c_MOST) (nomark _))))) (pss_cons (ps_expr (pe_meth (pv 0) T.cl_Monoid m_Monoid_go_on G_Monoid_go_on (hr.mono (by decide)) b_Monoid_go_on .nil pass0 (pa_cons (pv 3) (pa_nil)))) (pss_one (ps_set (i := 3) sc_Monoid_init.nd rfl (Or.inl rfl) (pe_op op_add (pv 3) (pe_int)))))))))))
theorem ok_Monoid_is_too_large (T : Txt K mg ad) (F : MethAt K ad.m "is_too_large" "Monoid.is_too_large" s_Monoid_is_too_large ["self"]) : KM P w K mg base ad.m "is_too_large" ["self"] 1 (sp_Monoid_is_too_large P w K ad) := by
  obtain ⟨f, fd, mt, F, b⟩ := F
  refine ⟨f, fd, mt, b, F.ok sc_Monoid_is_too_large (len_sp1 _) (fun cdv A outer s H vs Q E hr h => ?_)⟩
  have hu := hu_of hr
  have hu9 := hu9_of hr
  refine ⟨t_Monoid_is_too_large P w K ad, ?_, pure_Monoid_is_too_large T vs H Q E h⟩
  exact pss_one (ps_ret (pe_cmpR op_gt (pe_callB call_len_seq rfl T.n_len PySem.boot_len (pa_cons (pe_fld (pv 0) rfl) (pa_nil))) (pe_gi rfl T.c_MOST) (nomark _)))
theorem ok_Monoid_acceptances (T : Txt K mg ad) (F : MethAt K ad.m "acceptances" "Monoid.acceptances" s_Monoid_acceptances ["self", "automaton"]) (h_acceptance : KF P w K mg base "acceptance" ["automaton", "matrix"] 1 (sp_acceptance P w K ad)) : KM P w K mg base ad.m "acceptances" ["self", "automaton"] 2 (sp_Monoid_acceptances P w K ad) := by
  obtain ⟨f_acceptance, fd_acceptance, g_acceptance, k_acceptance, b_acceptance, G_acceptance⟩ := h_acceptance
  obtain ⟨f, fd, mt, F, b⟩ := F
  refine ⟨f, fd, mt, b, F.ok sc_Monoid_acceptances (len_sp2 _) (fun cdv A outer s H vs Q E hr h => ?_)⟩
  have hu := hu_of hr
  have hu9 := hu9_of hr
  refine ⟨t_Monoid_acceptances P w K ad, ?_, pure_Monoid_acceptances T vs H Q E h⟩
  exact pss_one (ps_ret (pe_lc (own := [("matrix", 2)]) (g := gName 2) (tt := tYes) (by rfl) sc_Monoid_acceptances.nd (pi_list (pe_fld (pv 0) rfl)) (blkOk_by (N := N_Monoid_acceptances) (sc := defScope s_Monoid_acceptances) (own := [("matrix", 2)]) (by decide +kernel)) (fun _ _ _ _ _ => pg_name (i := 2) sc_Monoid_acceptances.nd rfl (Or.inl rfl)) (fun _ _ _ _ _ => pts_nil) (fun _ _ _ _ _ => pe_call G_acceptance (hr.mono (by decide)) rfl g_acceptance k_acceptance b_acceptance .nil pass0 (pa_cons (pv 1) (pa_cons (pv 2) (pa_nil))))))
theorem ok_Monoid_postfix (T : Txt K mg ad) (F : MethAt K ad.m "postfix" "Monoid.postfix" s_Monoid_postfix ["self", "place"]) : KM P w K mg base ad.m "postfix" ["self", "place"] 1 (sp_Monoid_postfix P w K ad) := by
  obtain ⟨f, fd, mt, F, b⟩ := F
  refine ⟨f, fd, mt, b, F.ok sc_Monoid_postfix (len_sp2 _) (fun cdv A outer s H vs Q E hr h => ?_)⟩
  have hu := hu_of hr
  have hu9 := hu9_of hr
  refine ⟨t_Monoid_postfix P w K ad, ?_, pure_Monoid_postfix T vs H Q E h⟩
  exact pss_cons (ps_set (i := 2) sc_Monoid_postfix.nd rfl (Or.inl rfl) (pe_lst (pa_nil))) (pss_cons (ps_set (i := 3) sc_Monoid_postfix.nd rfl (Or.inl rfl) (pe_lst (pa_cons (pe_tup (pa_cons (pv 1) (pa_cons (pe_bl) (pa_nil)))) (pa_nil)))) (pss_cons (ps_while PassesOwn.never (pt_cmpR op_gt (pe_callB call_len_seq rfl T.n_len PySem.boot_len (pa_cons (pv 3) (pa_nil))) (pe_int) (nomark _)) (pss_cons (ps_asg (pe_bm0 PySem.F.plainAttrs_list PySem.F.slot_list_pop PySem.F.type_list_pop mt_pop (pv 3)) (pg_tup (by rfl) (pgs_cons (pg_name (i := 4) sc_Monoid_postfix.nd rfl (Or.inl rfl)) (pgs_cons (pg_name (i := 5) sc_Monoid_postfix.nd rfl (Or.inl rfl)) (pgs_nil))))) (pss_cons (ps_asg (pe_ix ix_list (pe_fld (pv 0) rfl) (pv 4) (fun _ _ => rfl)) (pg_tup (by rfl) (pgs_cons (pg_name (i := 6) sc_Monoid_postfix.nd rfl (Or.inl rfl)) (pgs_cons (pg_name (i := 7) sc_Monoid_postfix.nd rfl (Or.inl rfl)) (pgs_cons (pg_name (i := 8) sc_Monoid_postfix.nd rfl (Or.inl rfl)) (pgs_nil)))))) (pss_one (ps_if (PW.pt (pw_or (pt_val (pv 5)) (pw_or1 (pt_cmpR op_lt (pv 7) (pe_int) (nomark _))))) (pss_one (ps_expr (pe_bm PySem.F.plainAttrs_list PySem.F.slot_list_append PySem.F.type_list_append mt_append (pv 2) (pa_cons (pv 6) (pa_nil))))) (pss_cons (ps_expr (pe_bm PySem.F.plainAttrs_list PySem.F.slot_list_append PySem.F.type_list_append mt_append (pv 3) (pa_cons (pe_tup (pa_cons (pv 4) (pa_cons (pe_bl) (pa_nil)))) (pa_nil)))) (pss_cons (ps_if (pt_cmpR op_ge (pv 8) (pe_int) (nomark _)) (pss_one (ps_expr (pe_bm PySem.F.plainAttrs_list PySem.F.slot_list_append PySem.F.type_list_append mt_append (pv 3) (pa_cons (pe_tup (pa_cons (pv 8) (pa_cons (pe_bl) (pa_nil)))) (pa_nil))))) (pss_nil)) (pss_one (ps_expr (pe_bm PySem.F.plainAttrs_list PySem.F.slot_list_append PySem.F.type_list_append mt_append (pv 3) (pa_cons (pe_tup (pa_cons (pv 7) (pa_cons (pe_bl) (pa_nil)))) (pa_nil)))))))))))) (pss_one (ps_ret (pv 2)))))
theorem ok_Search_init (T : Txt K mg ad) (F : InitAt K mg "Search" ad.s "Search.__init__" s_Search_init ["self", "automaton", "top"]) (h_Automaton_first_costs : KM P w K mg base ad.a "first_costs" ["self"] 1 (sp_Automaton_first_costs P w K ad)) (h_Automaton_rows_of : KM P w K mg base ad.a "rows_of" ["self", "symbol"] 2 (sp_Automaton_rows_of P w K ad)) (h_next_costs : KF P w K mg base "next_costs" ["rows", "costs", "top"] 1 (sp_next_costs P w K ad)) : KI P w K mg base "Search" ad.s ["self", "automaton", "top"] 3 (sp_Search_init P w K ad) := by
  obtain ⟨f_Automaton_first_costs, fd_Automaton_first_costs, m_Automaton_first_costs, b_Automaton_first_costs, G_Automaton_first_costs⟩ := h_Automaton_first_costs
  obtain ⟨f_Automaton_rows_of, fd_Automaton_rows_of, m_Automaton_rows_of, b_Automaton_rows_of, G_Automaton_rows_of⟩ := h_Automaton_rows_of
  obtain ⟨f_next_costs, fd_next_costs, g_next_costs, k_next_costs, b_next_costs, G_next_costs⟩ := h_next_costs
  obtain ⟨f, fd, gf, mk, F, b⟩ := F
  refine ⟨f, fd, gf, mk, b, F.ok sc_Search_init (len_sp3 _) (fun cdv A outer s H vs Q E hr h => ?_)⟩
  have hu := hu_of hr
  have hu9 := hu9_of hr
  refine ⟨t_Search_init P w K ad, ?_, pure_Search_init T vs H Q E h⟩
  exact pss_cons (ps_setLc (i := 3) (own := [("symbol", 6)]) (g := gName 6) (tt := tYes) (by rfl) sc_Search_init.nd rfl rfl (sw_true rfl rfl rfl (by decide +kernel)) (pi_range1 rfl T.n_range (pa_cons (pe_fld (pv 1) rfl) (pa_nil))) (blkOk_by (N := N_Search_init) (sc := defScope s_Search_init) (own := [("symbol", 6)]) (by decide +kernel)) (fun _ _ _ _ _ => pg_name (i := 6) sc_Search_init.nd rfl (Or.inl rfl)) (fun _ _ _ _ _ => pts_nil) (fun _ _ _ _ _ => pe_meth (pv 1) T.cl_Automaton m_Automaton_rows_of G_Automaton_rows_of (hr.mono (by decide)) b_Automaton_rows_of .nil pass0 (pa_cons (pv 6) (pa_nil)))) (pss_cons (ps_fld (pv 0) (pe_lst (pa_cons (pe_meth0 (pv 1) T.cl_Automaton m_Automaton_first_costs G_Automaton_first_costs (hr.mono (by decide)) b_Automaton_first_costs .nil pass0) (pa_nil))) rfl) (pss_cons (ps_fld (pv 0) (pe_lst (pa_cons (pe_tup (pa_cons (pe_un un_neg (pe_int)) (pa_cons (pe_un un_neg (pe_int)) (pa_nil)))) (pa_nil))) rfl) (pss_cons (ps_set (i := 4) sc_Search_init.nd rfl (Or.inl rfl) (pe_knDisp hu9 (pe_ix ix_list (pe_fld (pv 0) rfl) (pe_int) (fun _ _ => rfl)) (pe_bl))) (pss_cons (ps_set (i := 5) sc_Search_init.nd rfl (Or.inl rfl) (pe_int)) (pss_one (ps_while PassesOwn.never (pt_cmpR op_lt (pv 5) (pe_callB call_len_seq rfl T.n_len PySem.boot_len (pa_cons (pe_fld (pv 0) rfl) (pa_nil))) (nomark _)) (pss_cons (ps_for PassesOwn.never rfl (pi_enum rfl T.n_enumerate (pa_cons (pv 3) (pa_nil))) (pg_tup (by rfl) (pgs_cons (pg_name (i := 6) sc_Search_init.nd rfl (Or.inl rfl)) (pgs_cons (pg_name (i := 7) sc_Search_init.nd rfl (Or.inl rfl)) (pgs_nil)))) (pss_cons (ps_set (i := 8) sc_Search_init.nd rfl (Or.inl rfl) (pe_call G_next_costs (hr.mono (by decide)) rfl g_next_costs k_next_costs b_next_costs .nil pass0 (pa_cons (pv 7) (pa_cons (pe_ix ix_list (pe_fld (pv 0) rfl) (pv 5) (fun _ _ => rfl)) (pa_cons (pv 2) (pa_nil)))))) (pss_one (ps_if (pt_cmp (pc_knNot hu9 (pv 8) (pv 4))) (pss_cons (ps_knPut hu9 (pv 4) (pv 8) (pe_bl) rfl) (pss_cons (ps_expr (pe_bm PySem.F.plainAttrs_list PySem.F.slot_list_append PySem.F.type_list_append mt_append (pe_fld (pv 0) rfl) (pa_cons (pv 8) (pa_nil)))) (pss_one (ps_expr (pe_bm PySem.F.plainAttrs_list PySem.F.slot_list_append PySem.F.type_list_append mt_append (pe_fld (pv 0) rfl) (pa_cons (pe_tup (pa_cons (pv 5) (pa_cons (pv 6) (pa_nil)))) (pa_nil))))))) (pss_nil))))) (pss_one (ps_set (i := 5) sc_Search_init.nd rfl (Or.inl rfl) (pe_op op_add (pv 5) (pe_int)))))))))))
theorem ok_Search_word_to (T : Txt K mg ad) (F : MethAt K ad.s "word_to" "Search.word_to" s_Search_word_to ["self", "place"]) : KM P w K mg base ad.s "word_to" ["self", "place"] 1 (sp_Search_word_to P w K ad) := by
  obtain ⟨f, fd, mt, F, b⟩ := F
  refine ⟨f, fd, mt, b, F.ok sc_Search_word_to (len_sp2 _) (fun cdv A outer s H vs Q E hr h => ?_)⟩
  have hu := hu_of hr
  have hu9 := hu9_of hr
  refine ⟨t_Search_word_to P w K ad, ?_, pure_Search_word_to T vs H Q E h⟩
  exact pss_cons (ps_set (i := 2) sc_Search_word_to.nd rfl (Or.inl rfl) (pe_lst (pa_nil))) (pss_cons (ps_set (i := 3) sc_Search_word_to.nd rfl (Or.inl rfl) (pv 1)) (pss_cons (ps_while PassesOwn.never (pt_cmpR op_gt (pv 3) (pe_int) (nomark _)) (pss_cons (ps_asg (pe_ix ix_list (pe_fld (pv 0) rfl) (pv 3) (fun _ _ => rfl)) (pg_tup (by rfl) (pgs_cons (pg_name (i := 4) sc_Search_word_to.nd rfl (Or.inl rfl)) (pgs_cons (pg_name (i := 5) sc_Search_word_to.nd rfl (Or.inl rfl)) (pgs_nil))))) (pss_cons (ps_expr (pe_bm PySem.F.plainAttrs_list PySem.F.slot_list_insert PySem.F.type_list_insert mt_insert (pv 2) (pa_cons (pe_int) (pa_cons (pv 5) (pa_nil))))) (pss_one (ps_set (i := 3) sc_Search_word_to.nd rfl (Or.inl rfl) (pv 4)))))) (pss_one (ps_ret (pv 2)))))
theorem ok_first_above (T : Txt K mg ad) (F : FunAt K mg "first_above" "first_above" s_first_above ["automaton", "bound"]) (h_Automaton_accepted_at : KM P w K mg base ad.a "accepted_at" ["self", "costs"] 1 (sp_Automaton_accepted_at P w K ad)) (h_Search_init : KI P w K mg base "Search" ad.s ["self", "automaton", "top"] 3 (sp_Search_init P w K ad)) (h_Search_word_to : KM P w K mg base ad.s "word_to" ["self", "place"] 1 (sp_Search_word_to P w K ad)) : KF P w K mg base "first_above" ["automaton", "bound"] 5 (sp_first_above P w K ad) := by
  obtain ⟨f_Automaton_accepted_at, fd_Automaton_accepted_at, m_Automaton_accepted_at, b_Automaton_accepted_at, G_Automaton_accepted_at⟩ := h_Automaton_accepted_at
  obtain ⟨f_Search_init, fd_Search_init, g_Search_init, m_Search_init, b_Search_init, G_Search_init⟩ := h_Search_init
  obtain ⟨f_Search_word_to, fd_Search_word_to, m_Search_word_to, b_Search_word_to, G_Search_word_to⟩ := h_Search_word_to
  obtain ⟨f, fd, gf, F, b⟩ := F
  refine ⟨f, fd, gf, F.kp, b, F.ok sc_first_above (len_sp2 _) (fun cdv A outer s H vs Q E hr h => ?_)⟩
  have hu := hu_of hr
  have hu9 := hu9_of hr
  refine ⟨t_first_above P w K ad, ?_, pure_first_above T vs H Q E h⟩
  exact pss_cons (ps_set (i := 2) sc_first_above.nd rfl (Or.inl rfl) (pe_make m_Search_init G_Search_init (hr.mono (by decide)) rfl g_Search_init b_Search_init .nil pass0 (pa_cons (pv 0) (pa_cons (pe_op op_add (pv 1) (pe_int)) (pa_nil))))) (pss_cons (ps_for PassesOwn.never rfl (pi_enum rfl T.n_enumerate (pa_cons (pe_fld (pv 2) rfl) (pa_nil))) (pg_tup (by rfl) (pgs_cons (pg_name (i := 3) sc_first_above.nd rfl (Or.inl rfl)) (pgs_cons (pg_name (i := 4) sc_first_above.nd rfl (Or.inl rfl)) (pgs_nil)))) (pss_one (ps_if (pt_chain op_lt op_lt (pv 1) (pe_meth (pv 0) T.cl_Automaton m_Automaton_accepted_at G_Automaton_accepted_at (hr.mono (by decide)) b_Automaton_accepted_at .nil pass0 (pa_cons (pv 4) (pa_nil))) (pe_gi rfl T.c_FAR)) (pss_one (ps_ret (pe_meth (pv 2) T.cl_Search m_Search_word_to G_Search_word_to (hr.mono (by decide)) b_Search_word_to .nil pass0 (pa_cons (pv 3) (pa_nil))))) (pss_nil)))) (pss_one (ps_ret (pe_non))))
theorem ok_greatest_cost (T : Txt K mg ad) (F : FunAt K mg "greatest_cost" "greatest_cost" s_greatest_cost ["automaton", "top"]) (h_Automaton_accepted_at : KM P w K mg base ad.a "accepted_at" ["self", "costs"] 1 (sp_Automaton_accepted_at P w K ad)) (h_Search_init : KI P w K mg base "Search" ad.s ["self", "automaton", "top"] 3 (sp_Search_init P w K ad)) : KF P w K mg base "greatest_cost" ["automaton", "top"] 5 (sp_greatest_cost P w K ad) := by
  obtain ⟨f_Automaton_accepted_at, fd_Automaton_accepted_at, m_Automaton_accepted_at, b_Automaton_accepted_at, G_Automaton_accepted_at⟩ := h_Automaton_accepted_at
  obtain ⟨f_Search_init, fd_Search_init, g_Search_init, m_Search_init, b_Search_init, G_Search_init⟩ := h_Search_init
  obtain ⟨f, fd, gf, F, b⟩ := F
  refine ⟨f, fd, gf, F.kp, b, F.ok sc_greatest_cost (len_sp2 _) (fun cdv A outer s H vs Q E hr h => ?_)⟩
  have hu := hu_of hr
  have hu9 := hu9_of hr
  refine ⟨t_greatest_cost P w K ad, ?_, pure_greatest_cost T vs H Q E h⟩
  exact pss_cons (ps_set (i := 2) sc_greatest_cost.nd rfl (Or.inl rfl) (pe_int)) (pss_cons (ps_for PassesOwn.never rfl (pi_list (pe_fld (pe_make m_Search_init G_Search_init (hr.mono (by decide)) rfl g_Search_init b_Search_init .nil pass0 (pa_cons (pv 0) (pa_cons (pv 1) (pa_nil)))) rfl)) (pg_name (i := 3) sc_greatest_cost.nd rfl (Or.inl rfl)) (pss_cons (ps_set (i := 4) sc_greatest_cost.nd rfl (Or.inl rfl) (pe_meth (pv 0) T.cl_Automaton m_Automaton_accepted_at G_Automaton_accepted_at (hr.mono (by decide)) b_Automaton_accepted_at .nil pass0 (pa_cons (pv 3) (pa_nil)))) (pss_one (ps_if (pt_cmpR op_lt (pv 4) (pe_gi rfl T.c_FAR) (nomark _)) (pss_one (ps_set (i := 2) sc_greatest_cost.nd rfl (Or.inl rfl) (pe_callB (cr_max2 rfl) rfl T.n_max (by decide +kernel) (pa_cons (pv 2) (pa_cons (pv 4) (pa_nil)))))) (pss_nil))))) (pss_one (ps_ret (pv 2))))
theorem ok_Module_init (T : Txt K mg ad) (F : InitAt K mg "Module" ad.o "Module.__init__" s_Module_init ["self"]) : KI P w K mg base "Module" ad.o ["self"] 1 (sp_Module_init P w K ad) := by
  obtain ⟨f, fd, gf, mk, F, b⟩ := F
  refine ⟨f, fd, gf, mk, b, F.ok sc_Module_init (len_sp1 _) (fun cdv A outer s H vs Q E hr h => ?_)⟩
  have hu := hu_of hr
  have hu9 := hu9_of hr
  refine ⟨t_Module_init P w K ad, ?_, pure_Module_init T vs H Q E h⟩
  exact pss_one (ps_fld (pv 0) (pe_non) rfl)
theorem ok_Module_create (T : Txt K mg ad) (F : MethAt K ad.o "create" "Module.create" s_Module_create ["self", "states", "symbols"]) (h_Automaton_init : KI P w K mg base "Automaton" ad.a ["self", "states", "symbols"] 1 (sp_Automaton_init P w K ad)) : KM P w K mg base ad.o "create" ["self", "states", "symbols"] 3 (sp_Module_create P w K ad) := by
  obtain ⟨f_Automaton_init, fd_Automaton_init, g_Automaton_init, m_Automaton_init, b_Automaton_init, G_Automaton_init⟩ := h_Automaton_init
  obtain ⟨f, fd, mt, F, b⟩ := F
  refine ⟨f, fd, mt, b, F.ok sc_Module_create (len_sp3 _) (fun cdv A outer s H vs Q E hr h => ?_)⟩
  have hu := hu_of hr
  have hu9 := hu9_of hr
  refine ⟨t_Module_create P w K ad, ?_, pure_Module_create T vs H Q E h⟩
  exact pss_cons (ps_if (PW.pt (pw_or (pt_not (pt_chain op_le op_le (pe_int) (pv 1) (pe_int))) (pw_or1 (pt_not (pt_chain op_le op_le (pe_int) (pv 2) (pe_int)))))) (pss_one (ps_ret (pe_lst (pa_cons (pe_un un_neg (pe_int)) (pa_nil))))) (pss_nil)) (pss_cons (ps_fld (pv 0) (pe_make m_Automaton_init G_Automaton_init (hr.mono (by decide)) rfl g_Automaton_init b_Automaton_init .nil pass0 (pa_cons (pv 1) (pa_cons (pv 2) (pa_nil)))) rfl) (pss_one (ps_ret (pe_lst (pa_cons (pe_int) (pa_nil))))))
theorem ok_Module_set_transition (T : Txt K mg ad) (F : MethAt K ad.o "set_transition" "Module.set_transition" s_Module_set_transition ["self", "key", "weight"]) (h_Automaton_knows : KM P w K mg base ad.a "knows" ["self", "symbol", "source", "target"] 1 (sp_Automaton_knows P w K ad)) (h_Automaton_weight_of : KM P w K mg base ad.a "weight_of" ["self", "symbol", "source", "target"] 1 (sp_Automaton_weight_of P w K ad)) : KM P w K mg base ad.o "set_transition" ["self", "key", "weight"] 2 (sp_Module_set_transition P w K ad) := by
  obtain ⟨f_Automaton_knows, fd_Automaton_knows, m_Automaton_knows, b_Automaton_knows, G_Automaton_knows⟩ := h_Automaton_knows
  obtain ⟨f_Automaton_weight_of, fd_Automaton_weight_of, m_Automaton_weight_of, b_Automaton_weight_of, G_Automaton_weight_of⟩ := h_Automaton_weight_of
  obtain ⟨f, fd, mt, F, b⟩ := F
  refine ⟨f, fd, mt, b, F.ok sc_Module_set_transition (len_sp3 _) (fun cdv A outer s H vs Q E hr h => ?_)⟩
  have hu := hu_of hr
  have hu9 := hu9_of hr
  refine ⟨t_Module_set_transition P w K ad, ?_, pure_Module_set_transition T vs H Q E h⟩
  exact pss_cons (ps_set (i := 3) sc_Module_set_transition.nd rfl (Or.inl rfl) (pe_fld (pv 0) rfl)) (pss_cons (ps_if (pt_not (pt_val (pe_meth (pv 3) T.cl_Automaton m_Automaton_knows G_Automaton_knows (hr.mono (by decide)) b_Automaton_knows .nil pass0 (pa_cons (pe_ix ix_tup (pv 1) (pe_int) (fun _ _ => rfl)) (pa_cons (pe_ix ix_tup (pv 1) (pe_int) (fun _ _ => rfl)) (pa_cons (pe_ix ix_tup (pv 1) (pe_int) (fun _ _ => rfl)) (pa_nil))))))) (pss_one (ps_ret (pe_lst (pa_cons (pe_un un_neg (pe_int)) (pa_nil))))) (pss_nil)) (pss_cons (ps_if (pt_cmpR op_gt (pv 2) (pe_gi rfl T.c_MOST_WEIGHT) (nomark _)) (pss_one (ps_ret (pe_lst (pa_cons (pe_un un_neg (pe_int)) (pa_nil))))) (pss_nil)) (pss_cons (ps_set (i := 4) sc_Module_set_transition.nd rfl (Or.inl rfl) (pe_op op_add (pe_meth (pv 3) T.cl_Automaton m_Automaton_weight_of G_Automaton_weight_of (hr.mono (by decide)) b_Automaton_weight_of .nil pass0 (pa_cons (pe_ix ix_tup (pv 1) (pe_int) (fun _ _ => rfl)) (pa_cons (pe_ix ix_tup (pv 1) (pe_int) (fun _ _ => rfl)) (pa_cons (pe_ix ix_tup (pv 1) (pe_int) (fun _ _ => rfl)) (pa_nil))))) (pe_int))) (pss_cons (ps_dput hu (pe_fld (pv 3) rfl) (pv 1) (pv 2) rfl) (pss_one (ps_ret (pe_lst (pa_cons (pv 4) (pa_nil)))))))))
theorem ok_Module_remove_transition (T : Txt K mg ad) (F : MethAt K ad.o "remove_transition" "Module.remove_transition" s_Module_remove_transition ["self", "key"]) (h_Automaton_knows : KM P w K mg base ad.a "knows" ["self", "symbol", "source", "target"] 1 (sp_Automaton_knows P w K ad)) : KM P w K mg base ad.o "remove_transition" ["self", "key"] 2 (sp_Module_remove_transition P w K ad) := by
  obtain ⟨f_Automaton_knows, fd_Automaton_knows, m_Automaton_knows, b_Automaton_knows, G_Automaton_knows⟩ := h_Automaton_knows
  obtain ⟨f, fd, mt, F, b⟩ := F
  refine ⟨f, fd, mt, b, F.ok sc_Module_remove_transition (len_sp2 _) (fun cdv A outer s H vs Q E hr h => ?_)⟩
  have hu := hu_of hr
  have hu9 := hu9_of hr
  refine ⟨t_Module_remove_transition P w K ad, ?_, pure_Module_remove_transition T vs H Q E h⟩
  exact pss_cons (ps_set (i := 2) sc_Module_remove_transition.nd rfl (Or.inl rfl) (pe_fld (pv 0) rfl)) (pss_cons (ps_if (pt_not (pt_val (pe_meth (pv 2) T.cl_Automaton m_Automaton_knows G_Automaton_knows (hr.mono (by decide)) b_Automaton_knows .nil pass0 (pa_cons (pe_ix ix_tup (pv 1) (pe_int) (fun _ _ => rfl)) (pa_cons (pe_ix ix_tup (pv 1) (pe_int) (fun _ _ => rfl)) (pa_cons (pe_ix ix_tup (pv 1) (pe_int) (fun _ _ => rfl)) (pa_nil))))))) (pss_one (ps_ret (pe_lst (pa_cons (pe_un un_neg (pe_int)) (pa_nil))))) (pss_nil)) (pss_cons (ps_if (pt_cmp (pc_dnotin hu (pv 1) (pe_fld (pv 2) rfl))) (pss_one (ps_ret (pe_lst (pa_cons (pe_un un_neg (pe_int)) (pa_nil))))) (pss_nil)) (pss_one (ps_ret (pe_lst (pa_cons (pe_bm PySem.F.plainAttrs_dict PySem.F.slot_dict_pop PySem.F.type_dict_pop (mt_popT1 hu) (pe_fld (pv 2) rfl) (pa_cons (pv 1) (pa_nil))) (pa_nil)))))))
theorem ok_Module_set_mask (T : Txt K mg ad) (F : MethAt K ad.o "set_mask" "Module.set_mask" s_Module_set_mask ["self", "is_initial", "mask"]) (h_Automaton_is_mask : KM P w K mg base ad.a "is_mask" ["self", "mask"] 1 (sp_Automaton_is_mask P w K ad)) : KM P w K mg base ad.o "set_mask" ["self", "is_initial", "mask"] 2 (sp_Module_set_mask P w K ad) := by
  obtain ⟨f_Automaton_is_mask, fd_Automaton_is_mask, m_Automaton_is_mask, b_Automaton_is_mask, G_Automaton_is_mask⟩ := h_Automaton_is_mask
  obtain ⟨f, fd, mt, F, b⟩ := F
  refine ⟨f, fd, mt, b, F.ok sc_Module_set_mask (len_sp3 _) (fun cdv A outer s H vs Q E hr h => ?_)⟩
  have hu := hu_of hr
  have hu9 := hu9_of hr
  refine ⟨t_Module_set_mask P w K ad, ?_, pure_Module_set_mask T vs H Q E h⟩
  exact pss_cons (ps_set (i := 3) sc_Module_set_mask.nd rfl (Or.inl rfl) (pe_fld (pv 0) rfl)) (pss_cons (ps_if (pt_not (pt_val (pe_meth (pv 3) T.cl_Automaton m_Automaton_is_mask G_Automaton_is_mask (hr.mono (by decide)) b_Automaton_is_mask .nil pass0 (pa_cons (pv 2) (pa_nil))))) (pss_one (ps_ret (pe_lst (pa_cons (pe_un un_neg (pe_int)) (pa_nil))))) (pss_nil)) (pss_cons (ps_if (pt_val (pv 1)) (pss_cons (ps_set (i := 4) sc_Module_set_mask.nd rfl (Or.inl rfl) (pe_fld (pv 3) rfl)) (pss_one (ps_fld (pv 3) (pv 2) rfl))) (pss_cons (ps_set (i := 4) sc_Module_set_mask.nd rfl (Or.inl rfl) (pe_fld (pv 3) rfl)) (pss_one (ps_fld (pv 3) (pv 2) rfl)))) (pss_one (ps_ret (pe_lst (pa_cons (pv 4) (pa_nil)))))))
theorem ok_Module_about_word (T : Txt K mg ad) (F : MethAt K ad.o "about_word" "Module.about_word" s_Module_about_word ["self", "number", "word"]) (h_Automaton_is_word : KM P w K mg base ad.a "is_word" ["self", "word"] 1 (sp_Automaton_is_word P w K ad)) (h_cost_of : KF P w K mg base "cost_of" ["automaton", "word"] 3 (sp_cost_of P w K ad)) (h_described : KF P w K mg base "described" ["matrix"] 1 (sp_described P w K ad)) (h_is_idempotent : KF P w K mg base "is_idempotent" ["one"] 2 (sp_is_idempotent P w K ad)) (h_stabilized : KF P w K mg base "stabilized" ["one"] 2 (sp_stabilized P w K ad)) (h_word_matrix : KF P w K mg base "word_matrix" ["automaton", "word"] 4 (sp_word_matrix P w K ad)) : KM P w K mg base ad.o "about_word" ["self", "number", "word"] 5 (sp_Module_about_word P w K ad) := by
  obtain ⟨f_Automaton_is_word, fd_Automaton_is_word, m_Automaton_is_word, b_Automaton_is_word, G_Automaton_is_word⟩ := h_Automaton_is_word
  obtain ⟨f_cost_of, fd_cost_of, g_cost_of, k_cost_of, b_cost_of, G_cost_of⟩ := h_cost_of
  obtain ⟨f_described, fd_described, g_described, k_described, b_described, G_described⟩ := h_described
  obtain ⟨f_is_idempotent, fd_is_idempotent, g_is_idempotent, k_is_idempotent, b_is_idempotent, G_is_idempotent⟩ := h_is_idempotent
  obtain ⟨f_stabilized, fd_stabilized, g_stabilized, k_stabilized, b_stabilized, G_stabilized⟩ := h_stabilized
  obtain ⟨f_word_matrix, fd_word_matrix, g_word_matrix, k_word_matrix, b_word_matrix, G_word_matrix⟩ := h_word_matrix
  obtain ⟨f, fd, mt, F, b⟩ := F
  refine ⟨f, fd, mt, b, F.ok sc_Module_about_word (len_sp3 _) (fun cdv A outer s H vs Q E hr h => ?_)⟩
  have hu := hu_of hr
  have hu9 := hu9_of hr
  refine ⟨t_Module_about_word P w K ad, ?_, pure_Module_about_word T vs H Q E h⟩
  exact pss_cons (ps_if (pt_not (pt_val (pe_meth (pe_fld (pv 0) rfl) T.cl_Automaton m_Automaton_is_word G_Automaton_is_word (hr.mono (by decide)) b_Automaton_is_word .nil pass0 (pa_cons (pv 2) (pa_nil))))) (pss_one (ps_ret (pe_lst (pa_cons (pe_un un_neg (pe_int)) (pa_nil))))) (pss_nil)) (pss_cons (ps_if (pt_cmpR op_eq (pv 1) (pe_int) (nomark _)) (pss_cons (ps_set (i := 3) sc_Module_about_word.nd rfl (Or.inl rfl) (pe_call G_cost_of (hr.mono (by decide)) rfl g_cost_of k_cost_of b_cost_of .nil pass0 (pa_cons (pe_fld (pv 0) rfl) (pa_cons (pv 2) (pa_nil))))) (pss_one (ps_ret (pe_ifExp (pt_cmpR op_ge (pv 3) (pe_int) (nomark _)) (pe_lst (pa_cons (pv 3) (pa_nil))) (pe_lst (pa_cons (pe_un un_neg (pe_int)) (pa_nil))))))) (pss_nil)) (pss_cons (ps_set (i := 4) sc_Module_about_word.nd rfl (Or.inl rfl) (pe_call G_word_matrix (hr.mono (by decide)) rfl g_word_matrix k_word_matrix b_word_matrix .nil pass0 (pa_cons (pe_fld (pv 0) rfl) (pa_cons (pv 2) (pa_nil))))) (pss_cons (ps_if (pt_cmpR op_eq (pv 1) (pe_int) (nomark _)) (pss_one (ps_ret (pe_call G_described (hr.mono (by decide)) rfl g_described k_described b_described .nil pass0 (pa_cons (pv 4) (pa_nil))))) (pss_nil)) (pss_cons (ps_if (pt_cmpR op_eq (pv 1) (pe_int) (nomark _)) (pss_one (ps_ret (pe_lst (pa_cons (pe_ifExp (pt_val (pe_call G_is_idempotent (hr.mono (by decide)) rfl g_is_idempotent k_is_idempotent b_is_idempotent .nil pass0 (pa_cons (pv 4) (pa_nil)))) (pe_int) (pe_int)) (pa_nil))))) (pss_nil)) (pss_one (ps_ret (pe_ifExp (pt_val (pe_call G_is_idempotent (hr.mono (by decide)) rfl g_is_idempotent k_is_idempotent b_is_idempotent .nil pass0 (pa_cons (pv 4) (pa_nil)))) (pe_call G_described (hr.mono (by decide)) rfl g_described k_described b_described .nil pass0 (pa_cons (pe_call G_stabilized (hr.mono (by decide)) rfl g_stabilized k_stabilized b_stabilized .nil pass0 (pa_cons (pv 4) (pa_nil))) (pa_nil))) (pe_lst (pa_cons (pe_un un_neg (pe_int)) (pa_nil))))))))))
theorem ok_Module_evaluate (T : Txt K mg ad) (F : MethAt K ad.o "evaluate" "Module.evaluate" s_Module_evaluate ["self", "row"]) (h_described : KF P w K mg base "described" ["matrix"] 1 (sp_described P w K ad)) (h_is_expression : KF P w K mg base "is_expression" ["automaton", "row"] 1 (sp_is_expression P w K ad)) (h_value_of : KF P w K mg base "value_of" ["automaton", "row"] 4 (sp_value_of P w K ad)) : KM P w K mg base ad.o "evaluate" ["self", "row"] 5 (sp_Module_evaluate P w K ad) := by
  obtain ⟨f_described, fd_described, g_described, k_described, b_described, G_described⟩ := h_described
  obtain ⟨f_is_expression, fd_is_expression, g_is_expression, k_is_expression, b_is_expression, G_is_expression⟩ := h_is_expression
  obtain ⟨f_value_of, fd_value_of, g_value_of, k_value_of, b_value_of, G_value_of⟩ := h_value_of
  obtain ⟨f, fd, mt, F, b⟩ := F
  refine ⟨f, fd, mt, b, F.ok sc_Module_evaluate (len_sp2 _) (fun cdv A outer s H vs Q E hr h => ?_)⟩
  have hu := hu_of hr
  have hu9 := hu9_of hr
  refine ⟨t_Module_evaluate P w K ad, ?_, pure_Module_evaluate T vs H Q E h⟩
  exact pss_cons (ps_if (pt_not (pt_val (pe_call G_is_expression (hr.mono (by decide)) rfl g_is_expression k_is_expression b_is_expression .nil pass0 (pa_cons (pe_fld (pv 0) rfl) (pa_cons (pv 1) (pa_nil)))))) (pss_one (ps_ret (pe_lst (pa_cons (pe_un un_neg (pe_int)) (pa_nil))))) (pss_nil)) (pss_cons (ps_set (i := 2) sc_Module_evaluate.nd rfl (Or.inl rfl) (pe_call G_value_of (hr.mono (by decide)) rfl g_value_of k_value_of b_value_of .nil pass0 (pa_cons (pe_fld (pv 0) rfl) (pa_cons (pv 1) (pa_nil))))) (pss_one (ps_ret (pe_ifExp (pt_cmpR op_gt (pe_callB call_len_seq rfl T.n_len PySem.boot_len (pa_cons (pv 2) (pa_nil))) (pe_int) (nomark _)) (pe_call G_described (hr.mono (by decide)) rfl g_described k_described b_described .nil pass0 (pa_cons (pv 2) (pa_nil))) (pe_lst (pa_cons (pe_un un_neg (pe_int)) (pa_nil)))))))
theorem ok_Module_unroll (T : Txt K mg ad) (F : MethAt K ad.o "unroll" "Module.unroll" s_Module_unroll ["self", "number", "count", "row"]) (h_cost_of : KF P w K mg base "cost_of" ["automaton", "word"] 3 (sp_cost_of P w K ad)) (h_is_expression : KF P w K mg base "is_expression" ["automaton", "row"] 1 (sp_is_expression P w K ad)) (h_length_of : KF P w K mg base "length_of" ["row", "count"] 1 (sp_length_of P w K ad)) (h_unrolled : KF P w K mg base "unrolled" ["row", "count"] 1 (sp_unrolled P w K ad)) : KM P w K mg base ad.o "unroll" ["self", "number", "count", "row"] 4 (sp_Module_unroll P w K ad) := by
  obtain ⟨f_cost_of, fd_cost_of, g_cost_of, k_cost_of, b_cost_of, G_cost_of⟩ := h_cost_of
  obtain ⟨f_is_expression, fd_is_expression, g_is_expression, k_is_expression, b_is_expression, G_is_expression⟩ := h_is_expression
  obtain ⟨f_length_of, fd_length_of, g_length_of, k_length_of, b_length_of, G_length_of⟩ := h_length_of
  obtain ⟨f_unrolled, fd_unrolled, g_unrolled, k_unrolled, b_unrolled, G_unrolled⟩ := h_unrolled
  obtain ⟨f, fd, mt, F, b⟩ := F
  refine ⟨f, fd, mt, b, F.ok sc_Module_unroll (len_sp4 _) (fun cdv A outer s H vs Q E hr h => ?_)⟩
  have hu := hu_of hr
  have hu9 := hu9_of hr
  refine ⟨t_Module_unroll P w K ad, ?_, pure_Module_unroll T vs H Q E h⟩
  exact pss_cons (ps_if (PW.pt (pw_or (pt_cmpR op_gt (pv 2) (pe_gi rfl T.c_MOST_COUNT) (nomark _)) (pw_or1 (pt_not (pt_val (pe_call G_is_expression (hr.mono (by decide)) rfl g_is_expression k_is_expression b_is_expression .nil pass0 (pa_cons (pe_fld (pv 0) rfl) (pa_cons (pv 3) (pa_nil))))))))) (pss_one (ps_ret (pe_lst (pa_cons (pe_un un_neg (pe_int)) (pa_nil))))) (pss_nil)) (pss_cons (ps_if (pt_cmpR op_ge (pe_call G_length_of (hr.mono (by decide)) rfl g_length_of k_length_of b_length_of .nil pass0 (pa_cons (pv 3) (pa_cons (pv 2) (pa_nil)))) (pe_gi rfl T.c_TOO_LONG) (nomark _)) (pss_one (ps_ret (pe_lst (pa_cons (pe_un un_neg (pe_int)) (pa_nil))))) (pss_nil)) (pss_cons (ps_if (pt_cmpR op_eq (pv 1) (pe_int) (nomark _)) (pss_cons (ps_set (i := 4) sc_Module_unroll.nd rfl (Or.inl rfl) (pe_call G_unrolled (hr.mono (by decide)) rfl g_unrolled k_unrolled b_unrolled .nil pass0 (pa_cons (pv 3) (pa_cons (pv 2) (pa_nil))))) (pss_one (ps_ret (pe_op op_cat (pe_lst (pa_cons (pe_callB call_len_seq rfl T.n_len PySem.boot_len (pa_cons (pv 4) (pa_nil))) (pa_nil))) (pv 4))))) (pss_nil)) (pss_cons (ps_setLc (i := 5) (own := [("copies", 6)]) (g := gName 6) (tt := tYes) (by rfl) sc_Module_unroll.nd rfl rfl (sw_true rfl rfl rfl (by decide +kernel)) (pi_range1 rfl T.n_range (pa_cons (pe_op op_add (pv 2) (pe_int)) (pa_nil))) (blkOk_by (N := N_Module_unroll) (sc := defScope s_Module_unroll) (own := [("copies", 6)]) (by decide +kernel)) (fun _ _ _ _ _ => pg_name (i := 6) sc_Module_unroll.nd rfl (Or.inl rfl)) (fun _ _ _ _ _ => pts_nil) (fun _ _ _ _ _ => pe_call G_cost_of (hr.mono (by decide)) rfl g_cost_of k_cost_of b_cost_of .nil pass0 (pa_cons (pe_fld (pv 0) rfl) (pa_cons (pe_call G_unrolled (hr.mono (by decide)) rfl g_unrolled k_unrolled b_unrolled .nil pass0 (pa_cons (pv 3) (pa_cons (pv 6) (pa_nil)))) (pa_nil))))) (pss_one (ps_ret (pe_op op_cat (pe_lst (pa_cons (pe_op op_add (pv 2) (pe_int)) (pa_nil))) (pv 5)))))))
theorem ok_Module_least_bound (T : Txt K mg ad) (F : MethAt K ad.o "least_bound" "Module.least_bound" s_Module_least_bound ["self"]) (h_greatest_cost : KF P w K mg base "greatest_cost" ["automaton", "top"] 5 (sp_greatest_cost P w K ad)) : KM P w K mg base ad.o "least_bound" ["self"] 6 (sp_Module_least_bound P w K ad) := by
  obtain ⟨f_greatest_cost, fd_greatest_cost, g_greatest_cost, k_greatest_cost, b_greatest_cost, G_greatest_cost⟩ := h_greatest_cost
  obtain ⟨f, fd, mt, F, b⟩ := F
  refine ⟨f, fd, mt, b, F.ok sc_Module_least_bound (len_sp1 _) (fun cdv A outer s H vs Q E hr h => ?_)⟩
  have hu := hu_of hr
  have hu9 := hu9_of hr
  refine ⟨t_Module_least_bound P w K ad, ?_, pure_Module_least_bound T vs H Q E h⟩
  exact pss_cons (ps_set (i := 1) sc_Module_least_bound.nd rfl (Or.inl rfl) (pe_call G_greatest_cost (hr.mono (by decide)) rfl g_greatest_cost k_greatest_cost b_greatest_cost .nil pass0 (pa_cons (pe_fld (pv 0) rfl) (pa_cons (pe_op op_add (pe_gi rfl T.c_MOST_LEAST) (pe_int)) (pa_nil))))) (pss_one (ps_ret (pe_ifExp (pt_cmpR op_le (pv 1) (pe_gi rfl T.c_MOST_LEAST) (nomark _)) (pe_lst (pa_cons (pv 1) (pa_nil))) (pe_lst (pa_cons (pe_un un_neg (pe_int)) (pa_nil))))))
theorem ok_Module_witness (T : Txt K mg ad) (F : MethAt K ad.o "witness" "Module.witness" s_Module_witness ["self", "monoid", "place"]) (h_Monoid_postfix : KM P w K mg base ad.m "postfix" ["self", "place"] 1 (sp_Monoid_postfix P w K ad)) : KM P w K mg base ad.o "witness" ["self", "monoid", "place"] 2 (sp_Module_witness P w K ad) := by
  obtain ⟨f_Monoid_postfix, fd_Monoid_postfix, m_Monoid_postfix, b_Monoid_postfix, G_Monoid_postfix⟩ := h_Monoid_postfix
  obtain ⟨f, fd, mt, F, b⟩ := F
  refine ⟨f, fd, mt, b, F.ok sc_Module_witness (len_sp3 _) (fun cdv A outer s H vs Q E hr h => ?_)⟩
  have hu := hu_of hr
  have hu9 := hu9_of hr
  refine ⟨t_Module_witness P w K ad, ?_, pure_Module_witness T vs H Q E h⟩
  exact pss_cons (ps_set (i := 3) sc_Module_witness.nd rfl (Or.inl rfl) (pe_meth (pv 1) T.cl_Monoid m_Monoid_postfix G_Monoid_postfix (hr.mono (by decide)) b_Monoid_postfix .nil pass0 (pa_cons (pv 2) (pa_nil)))) (pss_one (ps_ret (pe_op op_cat (pe_lst (pa_cons (pe_callB call_len_seq rfl T.n_len PySem.boot_len (pa_cons (pv 3) (pa_nil))) (pa_nil))) (pv 3))))
theorem ok_Module_about_monoid (T : Txt K mg ad) (F : MethAt K ad.o "about_monoid" "Module.about_monoid" s_Module_about_monoid ["self", "number", "index"]) (h_Module_least_bound : KM P w K mg base ad.o "least_bound" ["self"] 6 (sp_Module_least_bound P w K ad)) (h_Module_witness : KM P w K mg base ad.o "witness" ["self", "monoid", "place"] 2 (sp_Module_witness P w K ad)) (h_Monoid_init : KI P w K mg base "Monoid" ad.m ["self", "automaton"] 4 (sp_Monoid_init P w K ad)) (h_Monoid_acceptances : KM P w K mg base ad.m "acceptances" ["self", "automaton"] 2 (sp_Monoid_acceptances P w K ad)) (h_Monoid_is_too_large : KM P w K mg base ad.m "is_too_large" ["self"] 1 (sp_Monoid_is_too_large P w K ad)) (h_described : KF P w K mg base "described" ["matrix"] 1 (sp_described P w K ad)) : KM P w K mg base ad.o "about_monoid" ["self", "number", "index"] 7 (sp_Module_about_monoid P w K ad) := by
  obtain ⟨f_Module_least_bound, fd_Module_least_bound, m_Module_least_bound, b_Module_least_bound, G_Module_least_bound⟩ := h_Module_least_bound
  obtain ⟨f_Module_witness, fd_Module_witness, m_Module_witness, b_Module_witness, G_Module_witness⟩ := h_Module_witness
  obtain ⟨f_Monoid_init, fd_Monoid_init, g_Monoid_init, m_Monoid_init, b_Monoid_init, G_Monoid_init⟩ := h_Monoid_init
  obtain ⟨f_Monoid_acceptances, fd_Monoid_acceptances, m_Monoid_acceptances, b_Monoid_acceptances, G_Monoid_acceptances⟩ := h_Monoid_acceptances
  obtain ⟨f_Monoid_is_too_large, fd_Monoid_is_too_large, m_Monoid_is_too_large, b_Monoid_is_too_large, G_Monoid_is_too_large⟩ := h_Monoid_is_too_large
  obtain ⟨f_described, fd_described, g_described, k_described, b_described, G_described⟩ := h_described
  obtain ⟨f, fd, mt, F, b⟩ := F
  refine ⟨f, fd, mt, b, F.ok sc_Module_about_monoid (len_sp3 _) (fun cdv A outer s H vs Q E hr h => ?_)⟩
  have hu := hu_of hr
  have hu9 := hu9_of hr
  refine ⟨t_Module_about_monoid P w K ad, ?_, pure_Module_about_monoid T vs H Q E h⟩
  exact pss_cons (ps_set (i := 3) sc_Module_about_monoid.nd rfl (Or.inl rfl) (pe_make m_Monoid_init G_Monoid_init (hr.mono (by decide)) rfl g_Monoid_init b_Monoid_init .nil pass0 (pa_cons (pe_fld (pv 0) rfl) (pa_nil)))) (pss_cons (ps_if (pt_val (pe_meth0 (pv 3) T.cl_Monoid m_Monoid_is_too_large G_Monoid_is_too_large (hr.mono (by decide)) b_Monoid_is_too_large .nil pass0)) (pss_one (ps_ret (pe_lst (pa_cons (pe_un un_neg (pe_int)) (pa_nil))))) (pss_nil)) (pss_cons (ps_if (pt_cmpR op_eq (pv 1) (pe_int) (nomark _)) (pss_one (ps_ret (pe_lst (pa_cons (pe_callB call_len_seq rfl T.n_len PySem.boot_len (pa_cons (pe_fld (pv 3) rfl) (pa_nil))) (pa_nil))))) (pss_nil)) (pss_cons (ps_if (pt_cmpR op_eq (pv 1) (pe_int) (nomark _)) (pss_one (ps_ret (pe_ifExp (pt_cmpR op_lt (pv 2) (pe_callB call_len_seq rfl T.n_len PySem.boot_len (pa_cons (pe_fld (pv 3) rfl) (pa_nil))) (nomark _)) (pe_call G_described (hr.mono (by decide)) rfl g_described k_described b_described .nil pass0 (pa_cons (pe_ix ix_list (pe_fld (pv 3) rfl) (pv 2) (fun _ _ => rfl)) (pa_nil))) (pe_lst (pa_cons (pe_un un_neg (pe_int)) (pa_nil)))))) (pss_nil)) (pss_cons (ps_set (i := 4) sc_Module_about_monoid.nd rfl (Or.inl rfl) (pe_meth (pv 3) T.cl_Monoid m_Monoid_acceptances G_Monoid_acceptances (hr.mono (by decide)) b_Monoid_acceptances .nil pass0 (pa_cons (pe_fld (pv 0) rfl) (pa_nil)))) (pss_cons (ps_if (pt_cmpR op_eq (pv 1) (pe_int) (nomark _)) (pss_one (ps_ret (pe_lst (pa_cons (pe_callB call_len_seq rfl T.n_len PySem.boot_len (pa_cons (pe_lc (own := [("one", 6)]) (g := gName 6) (tt := tTest (tOp rNe (tVar 6) (tC (.int 3)))) (by rfl) sc_Module_about_monoid.nd (pi_list (pv 4)) (blkOk_by (N := N_Module_about_monoid) (sc := defScope s_Module_about_monoid) (own := [("one", 6)]) (by decide +kernel)) (fun _ _ _ _ _ => pg_name (i := 6) sc_Module_about_monoid.nd rfl (Or.inl rfl)) (fun _ _ _ _ _ => pts_one (pt_cmpR op_ne (pv 6) (pe_int) (nomark _))) (fun _ _ _ _ _ => pv 6)) (pa_nil))) (pa_nil))))) (pss_nil)) (pss_cons (ps_if (pt_cmpR op_eq (pv 1) (pe_int) (nomark _)) (pss_one (ps_ret (pe_lst (pa_cons (pe_bm PySem.F.plainAttrs_list PySem.F.slot_list_count PySem.F.type_list_count mt_lcount (pv 4) (pa_cons (pe_int) (pa_nil))) (pa_nil))))) (pss_nil)) (pss_cons (ps_set (i := 5) sc_Module_about_monoid.nd rfl (Or.inl rfl) (pe_cmpR op_notIn_seq (pe_int) (pv 4) (by rfl))) (pss_cons (ps_if (pt_cmpR op_eq (pv 1) (pe_int) (nomark _)) (pss_one (ps_ret (pe_lst (pa_cons (pe_ifExp (pt_val (pv 5)) (pe_int) (pe_int)) (pa_nil))))) (pss_nil)) (pss_cons (ps_if (pt_cmpR op_eq (pv 1) (pe_int) (nomark _)) (pss_one (ps_ret (pe_ifExp (pt_val (pv 5)) (pe_lst (pa_cons (pe_un un_neg (pe_int)) (pa_nil))) (pe_meth (pv 0) T.cl_Module m_Module_witness G_Module_witness (hr.mono (by decide)) b_Module_witness .nil pass0 (pa_cons (pv 3) (pa_cons (pe_bm PySem.F.plainAttrs_list PySem.F.slot_list_index PySem.F.type_list_index mt_index (pv 4) (pa_cons (pe_int) (pa_nil))) (pa_nil))))))) (pss_nil)) (pss_one (ps_ret (pe_ifExp (pt_val (pv 5)) (pe_meth0 (pv 0) T.cl_Module m_Module_least_bound G_Module_least_bound (hr.mono (by decide)) b_Module_least_bound .nil pass0) (pe_lst (pa_cons (pe_un un_neg (pe_int)) (pa_nil)))))))))))))))
theorem ok_Module_word_above (T : Txt K mg ad) (F : MethAt K ad.o "word_above" "Module.word_above" s_Module_word_above ["self", "bound"]) (h_first_above : KF P w K mg base "first_above" ["automaton", "bound"] 5 (sp_first_above P w K ad)) : KM P w K mg base ad.o "word_above" ["self", "bound"] 6 (sp_Module_word_above P w K ad) := by
  obtain ⟨f_first_above, fd_first_above, g_first_above, k_first_above, b_first_above, G_first_above⟩ := h_first_above
  obtain ⟨f, fd, mt, F, b⟩ := F
  refine ⟨f, fd, mt, b, F.ok sc_Module_word_above (len_sp2 _) (fun cdv A outer s H vs Q E hr h => ?_)⟩
  have hu := hu_of hr
  have hu9 := hu9_of hr
  refine ⟨t_Module_word_above P w K ad, ?_, pure_Module_word_above T vs H Q E h⟩
  exact pss_cons (ps_if (pt_cmpR op_gt (pv 1) (pe_gi rfl T.c_MOST_BOUND) (nomark _)) (pss_one (ps_ret (pe_lst (pa_cons (pe_un un_neg (pe_int)) (pa_nil))))) (pss_nil)) (pss_cons (ps_set (i := 2) sc_Module_word_above.nd rfl (Or.inl rfl) (pe_call G_first_above (hr.mono (by decide)) rfl g_first_above k_first_above b_first_above .nil pass0 (pa_cons (pe_fld (pv 0) rfl) (pa_cons (pv 1) (pa_nil))))) (pss_one (ps_ret (pe_ifExp (pt_cmpR op_isN (pv 2) (pe_non) (nomark _)) (pe_lst (pa_cons (pe_un un_neg (pe_int)) (pa_nil))) (pe_op op_cat (pe_lst (pa_cons (pe_callB call_len_seq rfl T.n_len PySem.boot_len (pa_cons (pv 2) (pa_nil))) (pa_nil))) (pv 2))))))
theorem ok_Module_status (T : Txt K mg ad) (F : MethAt K ad.o "status" "Module.status" s_Module_status ["self"]) : KM P w K mg base ad.o "status" ["self"] 1 (sp_Module_status P w K ad) := by
  obtain ⟨f, fd, mt, F, b⟩ := F
  refine ⟨f, fd, mt, b, F.ok sc_Module_status (len_sp1 _) (fun cdv A outer s H vs Q E hr h => ?_)⟩
  have hu := hu_of hr
  have hu9 := hu9_of hr
  refine ⟨t_Module_status P w K ad, ?_, pure_Module_status T vs H Q E h⟩
  exact pss_one (ps_ret (pe_lst (pa_cons (pe_fld (pe_fld (pv 0) rfl) rfl) (pa_cons (pe_fld (pe_fld (pv 0) rfl) rfl) (pa_cons (pe_callB call_len_dT rfl T.n_len PySem.boot_len (pa_cons (pe_fld (pe_fld (pv 0) rfl) rfl) (pa_nil))) (pa_nil))))))
theorem ok_done (T : Txt K mg ad) (F : FunAt K mg "done" "done" s_done ["module", "number", "given", "row"]) (h_Module_about_monoid : KM P w K mg base ad.o "about_monoid" ["self", "number", "index"] 7 (sp_Module_about_monoid P w K ad)) (h_Module_about_word : KM P w K mg base ad.o "about_word" ["self", "number", "word"] 5 (sp_Module_about_word P w K ad)) (h_Module_create : KM P w K mg base ad.o "create" ["self", "states", "symbols"] 3 (sp_Module_create P w K ad)) (h_Module_evaluate : KM P w K mg base ad.o "evaluate" ["self", "row"] 5 (sp_Module_evaluate P w K ad)) (h_Module_remove_transition : KM P w K mg base ad.o "remove_transition" ["self", "key"] 2 (sp_Module_remove_transition P w K ad)) (h_Module_set_mask : KM P w K mg base ad.o "set_mask" ["self", "is_initial", "mask"] 2 (sp_Module_set_mask P w K ad)) (h_Module_set_transition : KM P w K mg base ad.o "set_transition" ["self", "key", "weight"] 2 (sp_Module_set_transition P w K ad)) (h_Module_status : KM P w K mg base ad.o "status" ["self"] 1 (sp_Module_status P w K ad)) (h_Module_unroll : KM P w K mg base ad.o "unroll" ["self", "number", "count", "row"] 4 (sp_Module_unroll P w K ad)) (h_Module_word_above : KM P w K mg base ad.o "word_above" ["self", "bound"] 6 (sp_Module_word_above P w K ad)) : KF P w K mg base "done" ["module", "number", "given", "row"] 8 (sp_done P w K ad) := by
  obtain ⟨f_Module_about_monoid, fd_Module_about_monoid, m_Module_about_monoid, b_Module_about_monoid, G_Module_about_monoid⟩ := h_Module_about_monoid
  obtain ⟨f_Module_about_word, fd_Module_about_word, m_Module_about_word, b_Module_about_word, G_Module_about_word⟩ := h_Module_about_word
  obtain ⟨f_Module_create, fd_Module_create, m_Module_create, b_Module_create, G_Module_create⟩ := h_Module_create
  obtain ⟨f_Module_evaluate, fd_Module_evaluate, m_Module_evaluate, b_Module_evaluate, G_Module_evaluate⟩ := h_Module_evaluate
  obtain ⟨f_Module_remove_transition, fd_Module_remove_transition, m_Module_remove_transition, b_Module_remove_transition, G_Module_remove_transition⟩ := h_Module_remove_transition
  obtain ⟨f_Module_set_mask, fd_Module_set_mask, m_Module_set_mask, b_Module_set_mask, G_Module_set_mask⟩ := h_Module_set_mask
  obtain ⟨f_Module_set_transition, fd_Module_set_transition, m_Module_set_transition, b_Module_set_transition, G_Module_set_transition⟩ := h_Module_set_transition
  obtain ⟨f_Module_status, fd_Module_status, m_Module_status, b_Module_status, G_Module_status⟩ := h_Module_status
  obtain ⟨f_Module_unroll, fd_Module_unroll, m_Module_unroll, b_Module_unroll, G_Module_unroll⟩ := h_Module_unroll
  obtain ⟨f_Module_word_above, fd_Module_word_above, m_Module_word_above, b_Module_word_above, G_Module_word_above⟩ := h_Module_word_above
  obtain ⟨f, fd, gf, F, b⟩ := F
  refine ⟨f, fd, gf, F.kp, b, F.ok sc_done (len_sp4 _) (fun cdv A outer s H vs Q E hr h => ?_)⟩
  have hu := hu_of hr
  have hu9 := hu9_of hr
  refine ⟨t_done P w K ad, ?_, pure_done T vs H Q E h⟩
  exact pss_cons (ps_if (pt_cmpR op_eq (pv 1) (pe_int) (nomark _)) (pss_one (ps_ret (pe_meth (pv 0) T.cl_Module m_Module_create G_Module_create (hr.mono (by decide)) b_Module_create .nil pass0 (pa_cons (pe_ix ix_list (pv 2) (pe_int) (fun _ _ => rfl)) (pa_cons (pe_ix ix_list (pv 2) (pe_int) (fun _ _ => rfl)) (pa_nil)))))) (pss_nil)) (pss_cons (ps_if (pt_cmpR op_isN (pe_fld (pv 0) rfl) (pe_non) (nomark _)) (pss_one (ps_ret (pe_lst (pa_cons (pe_un un_neg (pe_int)) (pa_nil))))) (pss_nil)) (pss_cons (ps_if (pt_cmpR op_eq (pv 1) (pe_int) (nomark _)) (pss_one (ps_ret (pe_meth (pv 0) T.cl_Module m_Module_set_transition G_Module_set_transition (hr.mono (by decide)) b_Module_set_transition .nil pass0 (pa_cons (pe_tup (pa_cons (pe_ix ix_list (pv 2) (pe_int) (fun _ _ => rfl)) (pa_cons (pe_ix ix_list (pv 2) (pe_int) (fun _ _ => rfl)) (pa_cons (pe_ix ix_list (pv 2) (pe_int) (fun _ _ => rfl)) (pa_nil))))) (pa_cons (pe_ix ix_list (pv 2) (pe_int) (fun _ _ => rfl)) (pa_nil)))))) (pss_nil)) (pss_cons (ps_if (pt_cmpR op_eq (pv 1) (pe_int) (nomark _)) (pss_one (ps_ret (pe_meth (pv 0) T.cl_Module m_Module_remove_transition G_Module_remove_transition (hr.mono (by decide)) b_Module_remove_transition .nil pass0 (pa_cons (pe_tup (pa_cons (pe_ix ix_list (pv 2) (pe_int) (fun _ _ => rfl)) (pa_cons (pe_ix ix_list (pv 2) (pe_int) (fun _ _ => rfl)) (pa_cons (pe_ix ix_list (pv 2) (pe_int) (fun _ _ => rfl)) (pa_nil))))) (pa_nil))))) (pss_nil)) (pss_cons (ps_if (PW.pt (pw_or (pt_cmpR op_eq (pv 1) (pe_int) (nomark _)) (pw_or1 (pt_cmpR op_eq (pv 1) (pe_int) (nomark _))))) (pss_one (ps_ret (pe_meth (pv 0) T.cl_Module m_Module_set_mask G_Module_set_mask (hr.mono (by decide)) b_Module_set_mask .nil pass0 (pa_cons (pe_cmpR op_eq (pv 1) (pe_int) (nomark _)) (pa_cons (pe_ix ix_list (pv 2) (pe_int) (fun _ _ => rfl)) (pa_nil)))))) (pss_nil)) (pss_cons (ps_if (pt_cmpR op_in_seq (pv 1) (pe_tup (pa_cons (pe_int) (pa_cons (pe_int) (pa_cons (pe_int) (pa_cons (pe_int) (pa_nil)))))) (by rfl)) (pss_one (ps_ret (pe_meth (pv 0) T.cl_Module m_Module_about_word G_Module_about_word (hr.mono (by decide)) b_Module_about_word .nil pass0 (pa_cons (pv 1) (pa_cons (pv 3) (pa_nil)))))) (pss_nil)) (pss_cons (ps_if (pt_cmpR op_eq (pv 1) (pe_int) (nomark _)) (pss_one (ps_ret (pe_meth (pv 0) T.cl_Module m_Module_evaluate G_Module_evaluate (hr.mono (by decide)) b_Module_evaluate .nil pass0 (pa_cons (pv 3) (pa_nil))))) (pss_nil)) (pss_cons (ps_if (PW.pt (pw_or (pt_cmpR op_eq (pv 1) (pe_int) (nomark _)) (pw_or1 (pt_cmpR op_eq (pv 1) (pe_int) (nomark _))))) (pss_one (ps_ret (pe_meth (pv 0) T.cl_Module m_Module_unroll G_Module_unroll (hr.mono (by decide)) b_Module_unroll .nil pass0 (pa_cons (pv 1) (pa_cons (pe_ix ix_list (pv 2) (pe_int) (fun _ _ => rfl)) (pa_cons (pv 3) (pa_nil))))))) (pss_nil)) (pss_cons (ps_if (pt_cmpR op_eq (pv 1) (pe_int) (nomark _)) (pss_one (ps_ret (pe_meth (pv 0) T.cl_Module m_Module_word_above G_Module_word_above (hr.mono (by decide)) b_Module_word_above .nil pass0 (pa_cons (pe_ix ix_list (pv 2) (pe_int) (fun _ _ => rfl)) (pa_nil))))) (pss_nil)) (pss_cons (ps_if (pt_cmpR op_eq (pv 1) (pe_int) (nomark _)) (pss_one (ps_ret (pe_meth0 (pv 0) T.cl_Module m_Module_status G_Module_status (hr.mono (by decide)) b_Module_status .nil pass0))) (pss_nil)) (pss_one (ps_ret (pe_meth (pv 0) T.cl_Module m_Module_about_monoid G_Module_about_monoid (hr.mono (by decide)) b_Module_about_monoid .nil pass0 (pa_cons (pv 1) (pa_cons (pe_ifExp (pt_cmpR op_eq (pv 1) (pe_int) (nomark _)) (pe_ix ix_list (pv 2) (pe_int) (fun _ _ => rfl)) (pe_int)) (pa_nil)))))))))))))))
theorem ok_answers {f : Addr} {fd : FuncData} (T : Txt K mg ad) (F : Fun K "answers" "answers" s_answers f fd) (h_Module_init : KI P w K mg base "Module" ad.o ["self"] 1 (sp_Module_init P w K ad)) (h_done : KF P w K mg base "done" ["module", "number", "given", "row"] 8 (sp_done P w K ad)) : FnOk P w K mg base CX0 9 f fd ["calls"] (sp_answers P w K ad) := by
  obtain ⟨f_Module_init, fd_Module_init, g_Module_init, m_Module_init, b_Module_init, G_Module_init⟩ := h_Module_init
  obtain ⟨f_done, fd_done, g_done, k_done, b_done, G_done⟩ := h_done
  refine F.ok sc_answers (len_sp1 _) (fun cdv A outer s H vs Q E hr h => ?_)
  have hu := hu_of hr
  have hu9 := hu9_of hr
  refine ⟨t_answers P w K ad, ?_, pure_answers T vs H Q E h⟩
  exact pss_cons (ps_set (i := 1) sc_answers.nd rfl (Or.inl rfl) (pe_make0 m_Module_init G_Module_init (hr.mono (by decide)) rfl g_Module_init b_Module_init .nil pass0)) (pss_cons (ps_set (i := 2) sc_answers.nd rfl (Or.inl rfl) (pe_lst (pa_nil))) (pss_cons (ps_set (i := 3) sc_answers.nd rfl (Or.inl rfl) (pe_int)) (pss_cons (ps_while PassesOwn.never (pt_cmpR op_lt (pv 3) (pe_callB call_len_seq rfl T.n_len PySem.boot_len (pa_cons (pv 0) (pa_nil))) (nomark _)) (pss_cons (ps_set (i := 4) sc_answers.nd rfl (Or.inl rfl) (pe_ix ix_list (pv 0) (pv 3) (fun _ _ => rfl))) (pss_cons (ps_set (i := 5) sc_answers.nd rfl (Or.inl rfl) (pe_op op_add (pv 3) (pe_int))) (pss_cons (ps_set (i := 3) sc_answers.nd rfl (Or.inl rfl) (pe_op op_add (pv 5) (pe_ix ix_tup (pe_glob rfl T.g_NUMBERS rfl) (pv 4) (fun _ _ => rfl)))) (pss_cons (ps_set (i := 6) sc_answers.nd rfl (Or.inl rfl) (pe_slice sl_list (pv 0) (po_some (pv 5)) (po_some (pv 3)))) (pss_cons (ps_set (i := 7) sc_answers.nd rfl (Or.inl rfl) (pe_lst (pa_nil))) (pss_cons (ps_if (pt_cmpR op_in_seq (pv 4) (pe_glob rfl T.g_WITH_ROW rfl) (by rfl)) (pss_cons (ps_set (i := 8) sc_answers.nd rfl (Or.inl rfl) (pe_op op_add (pe_op op_add (pv 3) (pe_int)) (pe_ix ix_list (pv 0) (pv 3) (fun _ _ => rfl)))) (pss_cons (ps_set (i := 7) sc_answers.nd rfl (Or.inl rfl) (pe_slice sl_list (pv 0) (po_some (pe_op op_add (pv 3) (pe_int))) (po_some (pv 8)))) (pss_one (ps_set (i := 3) sc_answers.nd rfl (Or.inl rfl) (pv 8))))) (pss_nil)) (pss_cons (ps_set (i := 9) sc_answers.nd rfl (Or.inl rfl) (pe_call G_done (hr.mono (by decide)) rfl g_done k_done b_done .nil pass0 (pa_cons (pv 1) (pa_cons (pv 4) (pa_cons (pv 6) (pa_cons (pv 7) (pa_nil))))))) (pss_cons (ps_expr (pe_bm PySem.F.plainAttrs_list PySem.F.slot_list_append PySem.F.type_list_append mt_append (pv 2) (pa_cons (pe_callB call_len_seq rfl T.n_len PySem.boot_len (pa_cons (pv 9) (pa_nil))) (pa_nil)))) (pss_one (ps_expr (pe_bm PySem.F.plainAttrs_list PySem.F.slot_list_extend PySem.F.type_list_extend mt_extend (pv 2) (pa_cons (pv 9) (pa_nil)))))))))))))) (pss_one (ps_ret (pv 2))))))
theorem all_ok {f : Addr} {fd : FuncData} (T : Txt K mg ad)
    (F_Automaton_init : InitAt K mg "Automaton" ad.a "Automaton.__init__" s_Automaton_init ["self", "states", "symbols"])
    (F_Automaton_knows : MethAt K ad.a "knows" "Automaton.knows" s_Automaton_knows ["self", "symbol", "source", "target"])
    (F_Automaton_weight_of : MethAt K ad.a "weight_of" "Automaton.weight_of" s_Automaton_weight_of ["self", "symbol", "source", "target"])
    (F_Automaton_rows_of : MethAt K ad.a "rows_of" "Automaton.rows_of" s_Automaton_rows_of ["self", "symbol"])
    (F_Automaton_is_mask : MethAt K ad.a "is_mask" "Automaton.is_mask" s_Automaton_is_mask ["self", "mask"])
    (F_Automaton_is_word : MethAt K ad.a "is_word" "Automaton.is_word" s_Automaton_is_word ["self", "word"])
    (F_Automaton_first_costs : MethAt K ad.a "first_costs" "Automaton.first_costs" s_Automaton_first_costs ["self"])
    (F_Automaton_accepted_at : MethAt K ad.a "accepted_at" "Automaton.accepted_at" s_Automaton_accepted_at ["self", "costs"])
    (F_next_costs : FunAt K mg "next_costs" "next_costs" s_next_costs ["rows", "costs", "top"])
    (F_cost_of : FunAt K mg "cost_of" "cost_of" s_cost_of ["automaton", "word"])
    (F_entry_of : FunAt K mg "entry_of" "entry_of" s_entry_of ["weight"])
    (F_matrix_of : FunAt K mg "matrix_of" "matrix_of" s_matrix_of ["rows"])
    (F_unit_of : FunAt K mg "unit_of" "unit_of" s_unit_of ["size"])
    (F_product : FunAt K mg "product" "product" s_product ["one", "other"])
    (F_is_idempotent : FunAt K mg "is_idempotent" "is_idempotent" s_is_idempotent ["one"])
    (F_looped : FunAt K mg "looped" "looped" s_looped ["entry"])
    (F_stabilized : FunAt K mg "stabilized" "stabilized" s_stabilized ["one"])
    (F_symbol_matrix : FunAt K mg "symbol_matrix" "symbol_matrix" s_symbol_matrix ["automaton", "symbol"])
    (F_word_matrix : FunAt K mg "word_matrix" "word_matrix" s_word_matrix ["automaton", "word"])
    (F_described : FunAt K mg "described" "described" s_described ["matrix"])
    (F_acceptance : FunAt K mg "acceptance" "acceptance" s_acceptance ["automaton", "matrix"])
    (F_is_expression : FunAt K mg "is_expression" "is_expression" s_is_expression ["automaton", "row"])
    (F_value_of : FunAt K mg "value_of" "value_of" s_value_of ["automaton", "row"])
    (F_length_of : FunAt K mg "length_of" "length_of" s_length_of ["row", "count"])
    (F_unrolled : FunAt K mg "unrolled" "unrolled" s_unrolled ["row", "count"])
    (F_Monoid_put : MethAt K ad.m "put" "Monoid.put" s_Monoid_put ["self", "matrix", "parts"])
    (F_Monoid_go_on : MethAt K ad.m "go_on" "Monoid.go_on" s_Monoid_go_on ["self", "place"])
    (F_Monoid_init : InitAt K mg "Monoid" ad.m "Monoid.__init__" s_Monoid_init ["self", "automaton"])
    (F_Monoid_is_too_large : MethAt K ad.m "is_too_large" "Monoid.is_too_large" s_Monoid_is_too_large ["self"])
    (F_Monoid_acceptances : MethAt K ad.m "acceptances" "Monoid.acceptances" s_Monoid_acceptances ["self", "automaton"])
    (F_Monoid_postfix : MethAt K ad.m "postfix" "Monoid.postfix" s_Monoid_postfix ["self", "place"])
    (F_Search_init : InitAt K mg "Search" ad.s "Search.__init__" s_Search_init ["self", "automaton", "top"])
    (F_Search_word_to : MethAt K ad.s "word_to" "Search.word_to" s_Search_word_to ["self", "place"])
    (F_first_above : FunAt K mg "first_above" "first_above" s_first_above ["automaton", "bound"])
    (F_greatest_cost : FunAt K mg "greatest_cost" "greatest_cost" s_greatest_cost ["automaton", "top"])
    (F_Module_init : InitAt K mg "Module" ad.o "Module.__init__" s_Module_init ["self"])
    (F_Module_create : MethAt K ad.o "create" "Module.create" s_Module_create ["self", "states", "symbols"])
    (F_Module_set_transition : MethAt K ad.o "set_transition" "Module.set_transition" s_Module_set_transition ["self", "key", "weight"])
    (F_Module_remove_transition : MethAt K ad.o "remove_transition" "Module.remove_transition" s_Module_remove_transition ["self", "key"])
    (F_Module_set_mask : MethAt K ad.o "set_mask" "Module.set_mask" s_Module_set_mask ["self", "is_initial", "mask"])
    (F_Module_about_word : MethAt K ad.o "about_word" "Module.about_word" s_Module_about_word ["self", "number", "word"])
    (F_Module_evaluate : MethAt K ad.o "evaluate" "Module.evaluate" s_Module_evaluate ["self", "row"])
    (F_Module_unroll : MethAt K ad.o "unroll" "Module.unroll" s_Module_unroll ["self", "number", "count", "row"])
    (F_Module_least_bound : MethAt K ad.o "least_bound" "Module.least_bound" s_Module_least_bound ["self"])
    (F_Module_witness : MethAt K ad.o "witness" "Module.witness" s_Module_witness ["self", "monoid", "place"])
    (F_Module_about_monoid : MethAt K ad.o "about_monoid" "Module.about_monoid" s_Module_about_monoid ["self", "number", "index"])
    (F_Module_word_above : MethAt K ad.o "word_above" "Module.word_above" s_Module_word_above ["self", "bound"])
    (F_Module_status : MethAt K ad.o "status" "Module.status" s_Module_status ["self"])
    (F_done : FunAt K mg "done" "done" s_done ["module", "number", "given", "row"])
    (F_answers : Fun K "answers" "answers" s_answers f fd)
    : FnOk P w K mg base CX0 9 f fd ["calls"] (sp_answers P w K ad) := by
  have h_Automaton_init : KI P w K mg base "Automaton" ad.a ["self", "states", "symbols"] 1 (sp_Automaton_init P w K ad) := ok_Automaton_init T F_Automaton_init
  have h_Automaton_knows : KM P w K mg base ad.a "knows" ["self", "symbol", "source", "target"] 1 (sp_Automaton_knows P w K ad) := ok_Automaton_knows T F_Automaton_knows
  have h_Automaton_weight_of : KM P w K mg base ad.a "weight_of" ["self", "symbol", "source", "target"] 1 (sp_Automaton_weight_of P w K ad) := ok_Automaton_weight_of T F_Automaton_weight_of
  have h_Automaton_rows_of : KM P w K mg base ad.a "rows_of" ["self", "symbol"] 2 (sp_Automaton_rows_of P w K ad) := ok_Automaton_rows_of T F_Automaton_rows_of h_Automaton_weight_of
  have h_Automaton_is_mask : KM P w K mg base ad.a "is_mask" ["self", "mask"] 1 (sp_Automaton_is_mask P w K ad) := ok_Automaton_is_mask T F_Automaton_is_mask
  have h_Automaton_is_word : KM P w K mg base ad.a "is_word" ["self", "word"] 1 (sp_Automaton_is_word P w K ad) := ok_Automaton_is_word T F_Automaton_is_word
  have h_Automaton_first_costs : KM P w K mg base ad.a "first_costs" ["self"] 1 (sp_Automaton_first_costs P w K ad) := ok_Automaton_first_costs T F_Automaton_first_costs
  have h_Automaton_accepted_at : KM P w K mg base ad.a "accepted_at" ["self", "costs"] 1 (sp_Automaton_accepted_at P w K ad) := ok_Automaton_accepted_at T F_Automaton_accepted_at
  have h_next_costs : KF P w K mg base "next_costs" ["rows", "costs", "top"] 1 (sp_next_costs P w K ad) := ok_next_costs T F_next_costs
  have h_cost_of : KF P w K mg base "cost_of" ["automaton", "word"] 3 (sp_cost_of P w K ad) := ok_cost_of T F_cost_of h_Automaton_accepted_at h_Automaton_first_costs h_Automaton_rows_of h_next_costs
  have h_entry_of : KF P w K mg base "entry_of" ["weight"] 1 (sp_entry_of P w K ad) := ok_entry_of T F_entry_of
  have h_matrix_of : KF P w K mg base "matrix_of" ["rows"] 2 (sp_matrix_of P w K ad) := ok_matrix_of T F_matrix_of h_entry_of
  have h_unit_of : KF P w K mg base "unit_of" ["size"] 1 (sp_unit_of P w K ad) := ok_unit_of T F_unit_of
  have h_product : KF P w K mg base "product" ["one", "other"] 1 (sp_product P w K ad) := ok_product T F_product
  have h_is_idempotent : KF P w K mg base "is_idempotent" ["one"] 2 (sp_is_idempotent P w K ad) := ok_is_idempotent T F_is_idempotent h_product
  have h_looped : KF P w K mg base "looped" ["entry"] 1 (sp_looped P w K ad) := ok_looped T F_looped
  have h_stabilized : KF P w K mg base "stabilized" ["one"] 2 (sp_stabilized P w K ad) := ok_stabilized T F_stabilized h_looped
  have h_symbol_matrix : KF P w K mg base "symbol_matrix" ["automaton", "symbol"] 3 (sp_symbol_matrix P w K ad) := ok_symbol_matrix T F_symbol_matrix h_Automaton_rows_of h_matrix_of
  have h_word_matrix : KF P w K mg base "word_matrix" ["automaton", "word"] 4 (sp_word_matrix P w K ad) := ok_word_matrix T F_word_matrix h_product h_symbol_matrix h_unit_of
  have h_described : KF P w K mg base "described" ["matrix"] 1 (sp_described P w K ad) := ok_described T F_described
  have h_acceptance : KF P w K mg base "acceptance" ["automaton", "matrix"] 1 (sp_acceptance P w K ad) := ok_acceptance T F_acceptance
  have h_is_expression : KF P w K mg base "is_expression" ["automaton", "row"] 1 (sp_is_expression P w K ad) := ok_is_expression T F_is_expression
  have h_value_of : KF P w K mg base "value_of" ["automaton", "row"] 4 (sp_value_of P w K ad) := ok_value_of T F_value_of h_is_idempotent h_product h_stabilized h_symbol_matrix
  have h_length_of : KF P w K mg base "length_of" ["row", "count"] 1 (sp_length_of P w K ad) := ok_length_of T F_length_of
  have h_unrolled : KF P w K mg base "unrolled" ["row", "count"] 1 (sp_unrolled P w K ad) := ok_unrolled T F_unrolled
  have h_Monoid_put : KM P w K mg base ad.m "put" ["self", "matrix", "parts"] 1 (sp_Monoid_put P w K ad) := ok_Monoid_put T F_Monoid_put
  have h_Monoid_go_on : KM P w K mg base ad.m "go_on" ["self", "place"] 3 (sp_Monoid_go_on P w K ad) := ok_Monoid_go_on T F_Monoid_go_on h_Monoid_put h_is_idempotent h_product h_stabilized
  have h_Monoid_init : KI P w K mg base "Monoid" ad.m ["self", "automaton"] 4 (sp_Monoid_init P w K ad) := ok_Monoid_init T F_Monoid_init h_Monoid_go_on h_Monoid_put h_symbol_matrix
  have h_Monoid_is_too_large : KM P w K mg base ad.m "is_too_large" ["self"] 1 (sp_Monoid_is_too_large P w K ad) := ok_Monoid_is_too_large T F_Monoid_is_too_large
  have h_Monoid_acceptances : KM P w K mg base ad.m "acceptances" ["self", "automaton"] 2 (sp_Monoid_acceptances P w K ad) := ok_Monoid_acceptances T F_Monoid_acceptances h_acceptance
  have h_Monoid_postfix : KM P w K mg base ad.m "postfix" ["self", "place"] 1 (sp_Monoid_postfix P w K ad) := ok_Monoid_postfix T F_Monoid_postfix
  have h_Search_init : KI P w K mg base "Search" ad.s ["self", "automaton", "top"] 3 (sp_Search_init P w K ad) := ok_Search_init T F_Search_init h_Automaton_first_costs h_Automaton_rows_of h_next_costs
  have h_Search_word_to : KM P w K mg base ad.s "word_to" ["self", "place"] 1 (sp_Search_word_to P w K ad) := ok_Search_word_to T F_Search_word_to
  have h_first_above : KF P w K mg base "first_above" ["automaton", "bound"] 5 (sp_first_above P w K ad) := ok_first_above T F_first_above h_Automaton_accepted_at h_Search_init h_Search_word_to
  have h_greatest_cost : KF P w K mg base "greatest_cost" ["automaton", "top"] 5 (sp_greatest_cost P w K ad) := ok_greatest_cost T F_greatest_cost h_Automaton_accepted_at h_Search_init
  have h_Module_init : KI P w K mg base "Module" ad.o ["self"] 1 (sp_Module_init P w K ad) := ok_Module_init T F_Module_init
  have h_Module_create : KM P w K mg base ad.o "create" ["self", "states", "symbols"] 3 (sp_Module_create P w K ad) := ok_Module_create T F_Module_create h_Automaton_init
  have h_Module_set_transition : KM P w K mg base ad.o "set_transition" ["self", "key", "weight"] 2 (sp_Module_set_transition P w K ad) := ok_Module_set_transition T F_Module_set_transition h_Automaton_knows h_Automaton_weight_of
  have h_Module_remove_transition : KM P w K mg base ad.o "remove_transition" ["self", "key"] 2 (sp_Module_remove_transition P w K ad) := ok_Module_remove_transition T F_Module_remove_transition h_Automaton_knows
  have h_Module_set_mask : KM P w K mg base ad.o "set_mask" ["self", "is_initial", "mask"] 2 (sp_Module_set_mask P w K ad) := ok_Module_set_mask T F_Module_set_mask h_Automaton_is_mask
  have h_Module_about_word : KM P w K mg base ad.o "about_word" ["self", "number", "word"] 5 (sp_Module_about_word P w K ad) := ok_Module_about_word T F_Module_about_word h_Automaton_is_word h_cost_of h_described h_is_idempotent h_stabilized h_word_matrix
  have h_Module_evaluate : KM P w K mg base ad.o "evaluate" ["self", "row"] 5 (sp_Module_evaluate P w K ad) := ok_Module_evaluate T F_Module_evaluate h_described h_is_expression h_value_of
  have h_Module_unroll : KM P w K mg base ad.o "unroll" ["self", "number", "count", "row"] 4 (sp_Module_unroll P w K ad) := ok_Module_unroll T F_Module_unroll h_cost_of h_is_expression h_length_of h_unrolled
  have h_Module_least_bound : KM P w K mg base ad.o "least_bound" ["self"] 6 (sp_Module_least_bound P w K ad) := ok_Module_least_bound T F_Module_least_bound h_greatest_cost
  have h_Module_witness : KM P w K mg base ad.o "witness" ["self", "monoid", "place"] 2 (sp_Module_witness P w K ad) := ok_Module_witness T F_Module_witness h_Monoid_postfix
  have h_Module_about_monoid : KM P w K mg base ad.o "about_monoid" ["self", "number", "index"] 7 (sp_Module_about_monoid P w K ad) := ok_Module_about_monoid T F_Module_about_monoid h_Module_least_bound h_Module_witness h_Monoid_init h_Monoid_acceptances h_Monoid_is_too_large h_described
  have h_Module_word_above : KM P w K mg base ad.o "word_above" ["self", "bound"] 6 (sp_Module_word_above P w K ad) := ok_Module_word_above T F_Module_word_above h_first_above
  have h_Module_status : KM P w K mg base ad.o "status" ["self"] 1 (sp_Module_status P w K ad) := ok_Module_status T F_Module_status
  have h_done : KF P w K mg base "done" ["module", "number", "given", "row"] 8 (sp_done P w K ad) := ok_done T F_done h_Module_about_monoid h_Module_about_word h_Module_create h_Module_evaluate h_Module_remove_transition h_Module_set_mask h_Module_set_transition h_Module_status h_Module_unroll h_Module_word_above
  exact ok_answers T F_answers h_Module_init h_done
end
end Cr

/-! The end: what the top has written; the statement. -/
namespace Cr
open PySem PySem.Spec PyProof.Rows L2 Evl Cw
section
variable {K : PySem.W.Frag} {h : Heap} {mg : Str → Option Value} {f : Addr} {x m qual cls : Str} {st : Stmt} {ps : List Str} {oc : Value} {od an : Option Addr} {sl : Array (Option Value)} {kV dc pm cd ct : Value} {C : Addr}
theorem fun_at (X : K.In h) (G : h.Ns mainGlobals mg) (hb : ∀ (kV doc pm : Value) (an : Option Addr) (cdv ct : Value) (us : List Value), us.length = ps.length → bindArgs (PySem.W.fnOf x qual (defArgs st) (defBody st) (defScope st) .none kV doc pm an cdv ct) ⟨us, []⟩ = pure (ps.zip us))
    (a : PySem.W.nsIn K mainGlobals x = some (some (.ref f))) (l : K.lookup f = some ⟨oc, od, .func (PySem.W.fnOf x qual (defArgs st) (defBody st) (defScope st) .none kV dc pm an cd ct), sl⟩) (c : PySem.W.codeIn K cd qual = true) (k : PySem.W.keepIn K (.ref f) = true) : FunAt K mg x qual st ps := by
  have F := fun_mk l c k
  exact ⟨_, _, PySem.W.mg_of X G a, F, F.binds hb⟩
theorem meth_at (hb : ∀ (kV doc pm : Value) (an : Option Addr) (cdv ct : Value) (us : List Value), us.length = ps.length → bindArgs (PySem.W.fnOf m qual (defArgs st) (defBody st) (defScope st) .none kV doc pm an cdv ct) ⟨us, []⟩ = pure (ps.zip us))
    (a : PySem.W.findIn K (.ref C) m = some (some (.ref f))) (i : PySem.W.isFn K (.ref f) = true) (l : K.lookup f = some ⟨oc, od, .func (PySem.W.fnOf m qual (defArgs st) (defBody st) (defScope st) .none kV dc pm an cd ct), sl⟩) (c : PySem.W.codeIn K cd qual = true) (k : PySem.W.keepIn K (.ref f) = true) : MethAt K C m qual st ps := by
  have F := fun_mk l c k
  exact ⟨_, _, ⟨a, i, k⟩, F, F.binds hb⟩
theorem init_at (X : K.In h) (G : h.Ns mainGlobals mg) (hb : ∀ (kV doc pm : Value) (an : Option Addr) (cdv ct : Value) (us : List Value), us.length = ps.length → bindArgs (PySem.W.fnOf "__init__" qual (defArgs st) (defBody st) (defScope st) .none kV doc pm an cdv ct) ⟨us, []⟩ = pure (ps.zip us))
    (g : PySem.W.nsIn K mainGlobals cls = some (some (.ref C))) (mk : PySem.W.makesIn K C = true) (kc : PySem.W.keepIn K (.ref C) = true)
    (a : PySem.W.findIn K (.ref C) "__init__" = some (some (.ref f))) (i : PySem.W.isFn K (.ref f) = true) (l : K.lookup f = some ⟨oc, od, .func (PySem.W.fnOf "__init__" qual (defArgs st) (defBody st) (defScope st) .none kV dc pm an cd ct), sl⟩) (c : PySem.W.codeIn K cd qual = true) (k : PySem.W.keepIn K (.ref f) = true) : InitAt K mg cls C qual st ps := by
  have F := fun_mk l c k
  exact ⟨_, _, PySem.W.mg_of X G g, ⟨mk, a, i, kc⟩, F, F.binds hb⟩
theorem int_at {n : Int} {t : Tok} (X : K.In h) (G : h.Ns mainGlobals mg) (a : PySem.W.nsIn K mainGlobals x = some (some (.int n t))) : ∃ t, mg x = some (.int n t) := ⟨t, PySem.W.mg_of X G a⟩
theorem cls_at (pg : PySem.W.plainGet K C Str.empty = true) (hd : PySem.W.hasDictIn K C = true) (po : PySem.W.plainOver K C = true) (sa : PySem.W.findIn K (.ref C) "__setattr__" = some (some (.builtin "object.__setattr__"))) : Cls K C := ⟨pg, hd, po, sa⟩
def TupOk (o : Obj) (xs : List V) : Prop := ∃ (its : Array Value) (n : Nat), o.cls = .type "tuple" ∧ o.data = .seq its n ∧ its.size ≤ sizeLine ∧ Vals xs its.toList
theorem TupOk.at {a : Addr} {o : Obj} {xs : List V} (t : TupOk o xs) (l : K.lookup a = some o) : ∀ H, SqT K H a xs := fun H => let ⟨its, n, h1, h2, h3, h4⟩ := t; .inr ⟨o, its, n, l, h1, h2, h3, h4⟩
end
theorem facts_all {P : Program} {w : World} {K : PySem.W.Frag} {h : Heap} {mg : Str → Option Value} {fa : Addr} (X : K.In h) (G : h.Ns mainGlobals mg) (hfa : mg "answers" = some (.ref fa))
    {ad_a ad_m ad_s ad_o ad_nums ad_wrow : Addr} {f_Automaton_init f_Automaton_knows f_Automaton_weight_of f_Automaton_rows_of f_Automaton_is_mask f_Automaton_is_word f_Automaton_first_costs f_Automaton_accepted_at f_next_costs f_cost_of f_entry_of f_matrix_of f_unit_of f_product f_is_idempotent f_looped f_stabilized f_symbol_matrix f_word_matrix f_described f_acceptance f_is_expression f_value_of f_length_of f_unrolled f_Monoid_put f_Monoid_go_on f_Monoid_init f_Monoid_is_too_large f_Monoid_acceptances f_Monoid_postfix f_Search_init f_Search_word_to f_first_above f_greatest_cost f_Module_init f_Module_create f_Module_set_transition f_Module_remove_transition f_Module_set_mask f_Module_about_word f_Module_evaluate f_Module_unroll f_Module_least_bound f_Module_witness f_Module_about_monoid f_Module_word_above f_Module_status f_done f_answers : Addr} {tk_FAR tk_NONE tk_JOIN tk_AGAIN tk_TOO_LONG tk_MOST tk_MOST_WEIGHT tk_MOST_COUNT tk_MOST_BOUND tk_MOST_LEAST : Tok} {ob_nums ob_wrow : Obj}
    {oc_Automaton_init kV_Automaton_init dc_Automaton_init pm_Automaton_init cd_Automaton_init ct_Automaton_init oc_Automaton_knows kV_Automaton_knows dc_Automaton_knows pm_Automaton_knows cd_Automaton_knows ct_Automaton_knows oc_Automaton_weight_of kV_Automaton_weight_of dc_Automaton_weight_of pm_Automaton_weight_of cd_Automaton_weight_of ct_Automaton_weight_of oc_Automaton_rows_of kV_Automaton_rows_of dc_Automaton_rows_of pm_Automaton_rows_of cd_Automaton_rows_of ct_Automaton_rows_of oc_Automaton_is_mask kV_Automaton_is_mask dc_Automaton_is_mask pm_Automaton_is_mask cd_Automaton_is_mask ct_Automaton_is_mask oc_Automaton_is_word kV_Automaton_is_word dc_Automaton_is_word pm_Automaton_is_word cd_Automaton_is_word ct_Automaton_is_word oc_Automaton_first_costs kV_Automaton_first_costs dc_Automaton_first_costs pm_Automaton_first_costs cd_Automaton_first_costs ct_Automaton_first_costs oc_Automaton_accepted_at kV_Automaton_accepted_at dc_Automaton_accepted_at pm_Automaton_accepted_at cd_Automaton_accepted_at ct_Automaton_accepted_at oc_next_costs kV_next_costs dc_next_costs pm_next_costs cd_next_costs ct_next_costs oc_cost_of kV_cost_of dc_cost_of pm_cost_of cd_cost_of ct_cost_of oc_entry_of kV_entry_of dc_entry_of pm_entry_of cd_entry_of ct_entry_of oc_matrix_of kV_matrix_of dc_matrix_of pm_matrix_of cd_matrix_of ct_matrix_of oc_unit_of kV_unit_of dc_unit_of pm_unit_of cd_unit_of ct_unit_of oc_product kV_product dc_product pm_product cd_product ct_product oc_is_idempotent kV_is_idempotent dc_is_idempotent pm_is_idempotent cd_is_idempotent ct_is_idempotent oc_looped kV_looped dc_looped pm_looped cd_looped ct_looped oc_stabilized kV_stabilized dc_stabilized pm_stabilized cd_stabilized ct_stabilized oc_symbol_matrix kV_symbol_matrix dc_symbol_matrix pm_symbol_matrix cd_symbol_matrix ct_symbol_matrix oc_word_matrix kV_word_matrix dc_word_matrix pm_word_matrix cd_word_matrix ct_word_matrix oc_described kV_described dc_described pm_described cd_described ct_described oc_acceptance kV_acceptance dc_acceptance pm_acceptance cd_acceptance ct_acceptance oc_is_expression kV_is_expression dc_is_expression pm_is_expression cd_is_expression ct_is_expression oc_value_of kV_value_of dc_value_of pm_value_of cd_value_of ct_value_of oc_length_of kV_length_of dc_length_of pm_length_of cd_length_of ct_length_of oc_unrolled kV_unrolled dc_unrolled pm_unrolled cd_unrolled ct_unrolled oc_Monoid_put kV_Monoid_put dc_Monoid_put pm_Monoid_put cd_Monoid_put ct_Monoid_put oc_Monoid_go_on kV_Monoid_go_on dc_Monoid_go_on pm_Monoid_go_on cd_Monoid_go_on ct_Monoid_go_on oc_Monoid_init kV_Monoid_init dc_Monoid_init pm_Monoid_init cd_Monoid_init ct_Monoid_init oc_Monoid_is_too_large kV_Monoid_is_too_large dc_Monoid_is_too_large pm_Monoid_is_too_large cd_Monoid_is_too_large ct_Monoid_is_too_large oc_Monoid_acceptances kV_Monoid_acceptances dc_Monoid_acceptances pm_Monoid_acceptances cd_Monoid_acceptances ct_Monoid_acceptances oc_Monoid_postfix kV_Monoid_postfix dc_Monoid_postfix pm_Monoid_postfix cd_Monoid_postfix ct_Monoid_postfix oc_Search_init kV_Search_init dc_Search_init pm_Search_init cd_Search_init ct_Search_init oc_Search_word_to kV_Search_word_to dc_Search_word_to pm_Search_word_to cd_Search_word_to ct_Search_word_to oc_first_above kV_first_above dc_first_above pm_first_above cd_first_above ct_first_above oc_greatest_cost kV_greatest_cost dc_greatest_cost pm_greatest_cost cd_greatest_cost ct_greatest_cost oc_Module_init kV_Module_init dc_Module_init pm_Module_init cd_Module_init ct_Module_init oc_Module_create kV_Module_create dc_Module_create pm_Module_create cd_Module_create ct_Module_create oc_Module_set_transition kV_Module_set_transition dc_Module_set_transition pm_Module_set_transition cd_Module_set_transition ct_Module_set_transition oc_Module_remove_transition kV_Module_remove_transition dc_Module_remove_transition pm_Module_remove_transition cd_Module_remove_transition ct_Module_remove_transition oc_Module_set_mask kV_Module_set_mask dc_Module_set_mask pm_Module_set_mask cd_Module_set_mask ct_Module_set_mask oc_Module_about_word kV_Module_about_word dc_Module_about_word pm_Module_about_word cd_Module_about_word ct_Module_about_word oc_Module_evaluate kV_Module_evaluate dc_Module_evaluate pm_Module_evaluate cd_Module_evaluate ct_Module_evaluate oc_Module_unroll kV_Module_unroll dc_Module_unroll pm_Module_unroll cd_Module_unroll ct_Module_unroll oc_Module_least_bound kV_Module_least_bound dc_Module_least_bound pm_Module_least_bound cd_Module_least_bound ct_Module_least_bound oc_Module_witness kV_Module_witness dc_Module_witness pm_Module_witness cd_Module_witness ct_Module_witness oc_Module_about_monoid kV_Module_about_monoid dc_Module_about_monoid pm_Module_about_monoid cd_Module_about_monoid ct_Module_about_monoid oc_Module_word_above kV_Module_word_above dc_Module_word_above pm_Module_word_above cd_Module_word_above ct_Module_word_above oc_Module_status kV_Module_status dc_Module_status pm_Module_status cd_Module_status ct_Module_status oc_done kV_done dc_done pm_done cd_done ct_done oc_answers kV_answers dc_answers pm_answers cd_answers ct_answers : Value}
    {od_Automaton_init an_Automaton_init od_Automaton_knows an_Automaton_knows od_Automaton_weight_of an_Automaton_weight_of od_Automaton_rows_of an_Automaton_rows_of od_Automaton_is_mask an_Automaton_is_mask od_Automaton_is_word an_Automaton_is_word od_Automaton_first_costs an_Automaton_first_costs od_Automaton_accepted_at an_Automaton_accepted_at od_next_costs an_next_costs od_cost_of an_cost_of od_entry_of an_entry_of od_matrix_of an_matrix_of od_unit_of an_unit_of od_product an_product od_is_idempotent an_is_idempotent od_looped an_looped od_stabilized an_stabilized od_symbol_matrix an_symbol_matrix od_word_matrix an_word_matrix od_described an_described od_acceptance an_acceptance od_is_expression an_is_expression od_value_of an_value_of od_length_of an_length_of od_unrolled an_unrolled od_Monoid_put an_Monoid_put od_Monoid_go_on an_Monoid_go_on od_Monoid_init an_Monoid_init od_Monoid_is_too_large an_Monoid_is_too_large od_Monoid_acceptances an_Monoid_acceptances od_Monoid_postfix an_Monoid_postfix od_Search_init an_Search_init od_Search_word_to an_Search_word_to od_first_above an_first_above od_greatest_cost an_greatest_cost od_Module_init an_Module_init od_Module_create an_Module_create od_Module_set_transition an_Module_set_transition od_Module_remove_transition an_Module_remove_transition od_Module_set_mask an_Module_set_mask od_Module_about_word an_Module_about_word od_Module_evaluate an_Module_evaluate od_Module_unroll an_Module_unroll od_Module_least_bound an_Module_least_bound od_Module_witness an_Module_witness od_Module_about_monoid an_Module_about_monoid od_Module_word_above an_Module_word_above od_Module_status an_Module_status od_done an_done od_answers an_answers : Option Addr} {sl_Automaton_init sl_Automaton_knows sl_Automaton_weight_of sl_Automaton_rows_of sl_Automaton_is_mask sl_Automaton_is_word sl_Automaton_first_costs sl_Automaton_accepted_at sl_next_costs sl_cost_of sl_entry_of sl_matrix_of sl_unit_of sl_product sl_is_idempotent sl_looped sl_stabilized sl_symbol_matrix sl_word_matrix sl_described sl_acceptance sl_is_expression sl_value_of sl_length_of sl_unrolled sl_Monoid_put sl_Monoid_go_on sl_Monoid_init sl_Monoid_is_too_large sl_Monoid_acceptances sl_Monoid_postfix sl_Search_init sl_Search_word_to sl_first_above sl_greatest_cost sl_Module_init sl_Module_create sl_Module_set_transition sl_Module_remove_transition sl_Module_set_mask sl_Module_about_word sl_Module_evaluate sl_Module_unroll sl_Module_least_bound sl_Module_witness sl_Module_about_monoid sl_Module_word_above sl_Module_status sl_done sl_answers : Array (Option Value)}
    (g_a : PySem.W.nsIn K mainGlobals "Automaton" = some (some (.ref ad_a)))
    (pg_a : PySem.W.plainGet K ad_a Str.empty = true)
    (hd_a : PySem.W.hasDictIn K ad_a = true)
    (po_a : PySem.W.plainOver K ad_a = true)
    (sa_a : PySem.W.findIn K (.ref ad_a) "__setattr__" = some (some (.builtin "object.__setattr__")))
    (mk_a : PySem.W.makesIn K ad_a = true)
    (kc_a : PySem.W.keepIn K (.ref ad_a) = true)
    (nf_a1 : PySem.W.findIn K (.ref ad_a) "states" = some none)
    (nf_a2 : PySem.W.findIn K (.ref ad_a) "symbols" = some none)
    (nf_a3 : PySem.W.findIn K (.ref ad_a) "weights" = some none)
    (nf_a4 : PySem.W.findIn K (.ref ad_a) "initial" = some none)
    (nf_a5 : PySem.W.findIn K (.ref ad_a) "final" = some none)
    (g_m : PySem.W.nsIn K mainGlobals "Monoid" = some (some (.ref ad_m)))
    (pg_m : PySem.W.plainGet K ad_m Str.empty = true)
    (hd_m : PySem.W.hasDictIn K ad_m = true)
    (po_m : PySem.W.plainOver K ad_m = true)
    (sa_m : PySem.W.findIn K (.ref ad_m) "__setattr__" = some (some (.builtin "object.__setattr__")))
    (mk_m : PySem.W.makesIn K ad_m = true)
    (kc_m : PySem.W.keepIn K (.ref ad_m) = true)
    (nf_m1 : PySem.W.findIn K (.ref ad_m) "matrices" = some none)
    (nf_m2 : PySem.W.findIn K (.ref ad_m) "built" = some none)
    (nf_m3 : PySem.W.findIn K (.ref ad_m) "known" = some none)
    (g_s : PySem.W.nsIn K mainGlobals "Search" = some (some (.ref ad_s)))
    (pg_s : PySem.W.plainGet K ad_s Str.empty = true)
    (hd_s : PySem.W.hasDictIn K ad_s = true)
    (po_s : PySem.W.plainOver K ad_s = true)
    (sa_s : PySem.W.findIn K (.ref ad_s) "__setattr__" = some (some (.builtin "object.__setattr__")))
    (mk_s : PySem.W.makesIn K ad_s = true)
    (kc_s : PySem.W.keepIn K (.ref ad_s) = true)
    (nf_s1 : PySem.W.findIn K (.ref ad_s) "met" = some none)
    (nf_s2 : PySem.W.findIn K (.ref ad_s) "ways" = some none)
    (g_o : PySem.W.nsIn K mainGlobals "Module" = some (some (.ref ad_o)))
    (pg_o : PySem.W.plainGet K ad_o Str.empty = true)
    (hd_o : PySem.W.hasDictIn K ad_o = true)
    (po_o : PySem.W.plainOver K ad_o = true)
    (sa_o : PySem.W.findIn K (.ref ad_o) "__setattr__" = some (some (.builtin "object.__setattr__")))
    (mk_o : PySem.W.makesIn K ad_o = true)
    (kc_o : PySem.W.keepIn K (.ref ad_o) = true)
    (nf_o1 : PySem.W.findIn K (.ref ad_o) "automaton" = some none)
    (nb_len : PySem.W.nsIn K mainGlobals "len" = some none)
    (nb_range : PySem.W.nsIn K mainGlobals "range" = some none)
    (nb_min : PySem.W.nsIn K mainGlobals "min" = some none)
    (nb_max : PySem.W.nsIn K mainGlobals "max" = some none)
    (nb_all : PySem.W.nsIn K mainGlobals "all" = some none)
    (nb_tuple : PySem.W.nsIn K mainGlobals "tuple" = some none)
    (nb_list : PySem.W.nsIn K mainGlobals "list" = some none)
    (nb_enumerate : PySem.W.nsIn K mainGlobals "enumerate" = some none)
    (cc_FAR : PySem.W.nsIn K mainGlobals "FAR" = some (some (.int 1000000 tk_FAR)))
    (cc_NONE : PySem.W.nsIn K mainGlobals "NONE" = some (some (.int 3 tk_NONE)))
    (cc_JOIN : PySem.W.nsIn K mainGlobals "JOIN" = some (some (.int 8 tk_JOIN)))
    (cc_AGAIN : PySem.W.nsIn K mainGlobals "AGAIN" = some (some (.int 9 tk_AGAIN)))
    (cc_TOO_LONG : PySem.W.nsIn K mainGlobals "TOO_LONG" = some (some (.int 61 tk_TOO_LONG)))
    (cc_MOST : PySem.W.nsIn K mainGlobals "MOST" = some (some (.int 100 tk_MOST)))
    (cc_MOST_WEIGHT : PySem.W.nsIn K mainGlobals "MOST_WEIGHT" = some (some (.int 9 tk_MOST_WEIGHT)))
    (cc_MOST_COUNT : PySem.W.nsIn K mainGlobals "MOST_COUNT" = some (some (.int 4 tk_MOST_COUNT)))
    (cc_MOST_BOUND : PySem.W.nsIn K mainGlobals "MOST_BOUND" = some (some (.int 9 tk_MOST_BOUND)))
    (cc_MOST_LEAST : PySem.W.nsIn K mainGlobals "MOST_LEAST" = some (some (.int 12 tk_MOST_LEAST)))
    (gt_nums : PySem.W.nsIn K mainGlobals "NUMBERS" = some (some (.ref ad_nums)))
    (lt_nums : K.lookup ad_nums = some ob_nums)
    (gt_wrow : PySem.W.nsIn K mainGlobals "WITH_ROW" = some (some (.ref ad_wrow)))
    (lt_wrow : K.lookup ad_wrow = some ob_wrow)
    (a_Automaton_init : PySem.W.findIn K (.ref ad_a) "__init__" = some (some (.ref f_Automaton_init)))
    (i_Automaton_init : PySem.W.isFn K (.ref f_Automaton_init) = true)
    (l_Automaton_init : K.lookup f_Automaton_init = some ⟨oc_Automaton_init, od_Automaton_init, .func (PySem.W.fnOf "__init__" "Automaton.__init__" (defArgs s_Automaton_init) (defBody s_Automaton_init) (defScope s_Automaton_init) .none kV_Automaton_init dc_Automaton_init pm_Automaton_init an_Automaton_init cd_Automaton_init ct_Automaton_init), sl_Automaton_init⟩)
    (c_Automaton_init : PySem.W.codeIn K cd_Automaton_init "Automaton.__init__" = true)
    (k_Automaton_init : PySem.W.keepIn K (.ref f_Automaton_init) = true)
    (a_Automaton_knows : PySem.W.findIn K (.ref ad_a) "knows" = some (some (.ref f_Automaton_knows)))
    (i_Automaton_knows : PySem.W.isFn K (.ref f_Automaton_knows) = true)
    (l_Automaton_knows : K.lookup f_Automaton_knows = some ⟨oc_Automaton_knows, od_Automaton_knows, .func (PySem.W.fnOf "knows" "Automaton.knows" (defArgs s_Automaton_knows) (defBody s_Automaton_knows) (defScope s_Automaton_knows) .none kV_Automaton_knows dc_Automaton_knows pm_Automaton_knows an_Automaton_knows cd_Automaton_knows ct_Automaton_knows), sl_Automaton_knows⟩)
    (c_Automaton_knows : PySem.W.codeIn K cd_Automaton_knows "Automaton.knows" = true)
    (k_Automaton_knows : PySem.W.keepIn K (.ref f_Automaton_knows) = true)
    (a_Automaton_weight_of : PySem.W.findIn K (.ref ad_a) "weight_of" = some (some (.ref f_Automaton_weight_of)))
    (i_Automaton_weight_of : PySem.W.isFn K (.ref f_Automaton_weight_of) = true)
    (l_Automaton_weight_of : K.lookup f_Automaton_weight_of = some ⟨oc_Automaton_weight_of, od_Automaton_weight_of, .func (PySem.W.fnOf "weight_of" "Automaton.weight_of" (defArgs s_Automaton_weight_of) (defBody s_Automaton_weight_of) (defScope s_Automaton_weight_of) .none kV_Automaton_weight_of dc_Automaton_weight_of pm_Automaton_weight_of an_Automaton_weight_of cd_Automaton_weight_of ct_Automaton_weight_of), sl_Automaton_weight_of⟩)
    (c_Automaton_weight_of : PySem.W.codeIn K cd_Automaton_weight_of "Automaton.weight_of" = true)
    (k_Automaton_weight_of : PySem.W.keepIn K (.ref f_Automaton_weight_of) = true)
    (a_Automaton_rows_of : PySem.W.findIn K (.ref ad_a) "rows_of" = some (some (.ref f_Automaton_rows_of)))
    (i_Automaton_rows_of : PySem.W.isFn K (.ref f_Automaton_rows_of) = true)
    (l_Automaton_rows_of : K.lookup f_Automaton_rows_of = some ⟨oc_Automaton_rows_of, od_Automaton_rows_of, .func (PySem.W.fnOf "rows_of" "Automaton.rows_of" (defArgs s_Automaton_rows_of) (defBody s_Automaton_rows_of) (defScope s_Automaton_rows_of) .none kV_Automaton_rows_of dc_Automaton_rows_of pm_Automaton_rows_of an_Automaton_rows_of cd_Automaton_rows_of ct_Automaton_rows_of), sl_Automaton_rows_of⟩)
    (c_Automaton_rows_of : PySem.W.codeIn K cd_Automaton_rows_of "Automaton.rows_of" = true)
    (k_Automaton_rows_of : PySem.W.keepIn K (.ref f_Automaton_rows_of) = true)
    (a_Automaton_is_mask : PySem.W.findIn K (.ref ad_a) "is_mask" = some (some (.ref f_Automaton_is_mask)))
    (i_Automaton_is_mask : PySem.W.isFn K (.ref f_Automaton_is_mask) = true)
    (l_Automaton_is_mask : K.lookup f_Automaton_is_mask = some ⟨oc_Automaton_is_mask, od_Automaton_is_mask, .func (PySem.W.fnOf "is_mask" "Automaton.is_mask" (defArgs s_Automaton_is_mask) (defBody s_Automaton_is_mask) (defScope s_Automaton_is_mask) .none kV_Automaton_is_mask dc_Automaton_is_mask pm_Automaton_is_mask an_Automaton_is_mask cd_Automaton_is_mask ct_Automaton_is_mask), sl_Automaton_is_mask⟩)
    (c_Automaton_is_mask : PySem.W.codeIn K cd_Automaton_is_mask "Automaton.is_mask" = true)
    (k_Automaton_is_mask : PySem.W.keepIn K (.ref f_Automaton_is_mask) = true)
    (a_Automaton_is_word : PySem.W.findIn K (.ref ad_a) "is_word" = some (some (.ref f_Automaton_is_word)))
    (i_Automaton_is_word : PySem.W.isFn K (.ref f_Automaton_is_word) = true)
    (l_Automaton_is_word : K.lookup f_Automaton_is_word = some ⟨oc_Automaton_is_word, od_Automaton_is_word, .func (PySem.W.fnOf "is_word" "Automaton.is_word" (defArgs s_Automaton_is_word) (defBody s_Automaton_is_word) (defScope s_Automaton_is_word) .none kV_Automaton_is_word dc_Automaton_is_word pm_Automaton_is_word an_Automaton_is_word cd_Automaton_is_word ct_Automaton_is_word), sl_Automaton_is_word⟩)
    (c_Automaton_is_word : PySem.W.codeIn K cd_Automaton_is_word "Automaton.is_word" = true)
    (k_Automaton_is_word : PySem.W.keepIn K (.ref f_Automaton_is_word) = true)
    (a_Automaton_first_costs : PySem.W.findIn K (.ref ad_a) "first_costs" = some (some (.ref f_Automaton_first_costs)))
    (i_Automaton_first_costs : PySem.W.isFn K (.ref f_Automaton_first_costs) = true)
    (l_Automaton_first_costs : K.lookup f_Automaton_first_costs = some ⟨oc_Automaton_first_costs, od_Automaton_first_costs, .func (PySem.W.fnOf "first_costs" "Automaton.first_costs" (defArgs s_Automaton_first_costs) (defBody s_Automaton_first_costs) (defScope s_Automaton_first_costs) .none kV_Automaton_first_costs dc_Automaton_first_costs pm_Automaton_first_costs an_Automaton_first_costs cd_Automaton_first_costs ct_Automaton_first_costs), sl_Automaton_first_costs⟩)
    (c_Automaton_first_costs : PySem.W.codeIn K cd_Automaton_first_costs "Automaton.first_costs" = true)
    (k_Automaton_first_costs : PySem.W.keepIn K (.ref f_Automaton_first_costs) = true)
    (a_Automaton_accepted_at : PySem.W.findIn K (.ref ad_a) "accepted_at" = some (some (.ref f_Automaton_accepted_at)))
    (i_Automaton_accepted_at : PySem.W.isFn K (.ref f_Automaton_accepted_at) = true)
    (l_Automaton_accepted_at : K.lookup f_Automaton_accepted_at = some ⟨oc_Automaton_accepted_at, od_Automaton_accepted_at, .func (PySem.W.fnOf "accepted_at" "Automaton.accepted_at" (defArgs s_Automaton_accepted_at) (defBody s_Automaton_accepted_at) (defScope s_Automaton_accepted_at) .none kV_Automaton_accepted_at dc_Automaton_accepted_at pm_Automaton_accepted_at an_Automaton_accepted_at cd_Automaton_accepted_at ct_Automaton_accepted_at), sl_Automaton_accepted_at⟩)
    (c_Automaton_accepted_at : PySem.W.codeIn K cd_Automaton_accepted_at "Automaton.accepted_at" = true)
    (k_Automaton_accepted_at : PySem.W.keepIn K (.ref f_Automaton_accepted_at) = true)
    (a_next_costs : PySem.W.nsIn K mainGlobals "next_costs" = some (some (.ref f_next_costs)))
    (l_next_costs : K.lookup f_next_costs = some ⟨oc_next_costs, od_next_costs, .func (PySem.W.fnOf "next_costs" "next_costs" (defArgs s_next_costs) (defBody s_next_costs) (defScope s_next_costs) .none kV_next_costs dc_next_costs pm_next_costs an_next_costs cd_next_costs ct_next_costs), sl_next_costs⟩)
    (c_next_costs : PySem.W.codeIn K cd_next_costs "next_costs" = true)
    (k_next_costs : PySem.W.keepIn K (.ref f_next_costs) = true)
    (a_cost_of : PySem.W.nsIn K mainGlobals "cost_of" = some (some (.ref f_cost_of)))
    (l_cost_of : K.lookup f_cost_of = some ⟨oc_cost_of, od_cost_of, .func (PySem.W.fnOf "cost_of" "cost_of" (defArgs s_cost_of) (defBody s_cost_of) (defScope s_cost_of) .none kV_cost_of dc_cost_of pm_cost_of an_cost_of cd_cost_of ct_cost_of), sl_cost_of⟩)
    (c_cost_of : PySem.W.codeIn K cd_cost_of "cost_of" = true)
    (k_cost_of : PySem.W.keepIn K (.ref f_cost_of) = true)
    (a_entry_of : PySem.W.nsIn K mainGlobals "entry_of" = some (some (.ref f_entry_of)))
    (l_entry_of : K.lookup f_entry_of = some ⟨oc_entry_of, od_entry_of, .func (PySem.W.fnOf "entry_of" "entry_of" (defArgs s_entry_of) (defBody s_entry_of) (defScope s_entry_of) .none kV_entry_of dc_entry_of pm_entry_of an_entry_of cd_entry_of ct_entry_of), sl_entry_of⟩)
    (c_entry_of : PySem.W.codeIn K cd_entry_of "entry_of" = true)
    (k_entry_of : PySem.W.keepIn K (.ref f_entry_of) = true)
    (a_matrix_of : PySem.W.nsIn K mainGlobals "matrix_of" = some (some (.ref f_matrix_of)))
    (l_matrix_of : K.lookup f_matrix_of = some ⟨oc_matrix_of, od_matrix_of, .func (PySem.W.fnOf "matrix_of" "matrix_of" (defArgs s_matrix_of) (defBody s_matrix_of) (defScope s_matrix_of) .none kV_matrix_of dc_matrix_of pm_matrix_of an_matrix_of cd_matrix_of ct_matrix_of), sl_matrix_of⟩)
    (c_matrix_of : PySem.W.codeIn K cd_matrix_of "matrix_of" = true)
    (k_matrix_of : PySem.W.keepIn K (.ref f_matrix_of) = true)
    (a_unit_of : PySem.W.nsIn K mainGlobals "unit_of" = some (some (.ref f_unit_of)))
    (l_unit_of : K.lookup f_unit_of = some ⟨oc_unit_of, od_unit_of, .func (PySem.W.fnOf "unit_of" "unit_of" (defArgs s_unit_of) (defBody s_unit_of) (defScope s_unit_of) .none kV_unit_of dc_unit_of pm_unit_of an_unit_of cd_unit_of ct_unit_of), sl_unit_of⟩)
    (c_unit_of : PySem.W.codeIn K cd_unit_of "unit_of" = true)
    (k_unit_of : PySem.W.keepIn K (.ref f_unit_of) = true)
    (a_product : PySem.W.nsIn K mainGlobals "product" = some (some (.ref f_product)))
    (l_product : K.lookup f_product = some ⟨oc_product, od_product, .func (PySem.W.fnOf "product" "product" (defArgs s_product) (defBody s_product) (defScope s_product) .none kV_product dc_product pm_product an_product cd_product ct_product), sl_product⟩)
    (c_product : PySem.W.codeIn K cd_product "product" = true)
    (k_product : PySem.W.keepIn K (.ref f_product) = true)
    (a_is_idempotent : PySem.W.nsIn K mainGlobals "is_idempotent" = some (some (.ref f_is_idempotent)))
    (l_is_idempotent : K.lookup f_is_idempotent = some ⟨oc_is_idempotent, od_is_idempotent, .func (PySem.W.fnOf "is_idempotent" "is_idempotent" (defArgs s_is_idempotent) (defBody s_is_idempotent) (defScope s_is_idempotent) .none kV_is_idempotent dc_is_idempotent pm_is_idempotent an_is_idempotent cd_is_idempotent ct_is_idempotent), sl_is_idempotent⟩)
    (c_is_idempotent : PySem.W.codeIn K cd_is_idempotent "is_idempotent" = true)
    (k_is_idempotent : PySem.W.keepIn K (.ref f_is_idempotent) = true)
    (a_looped : PySem.W.nsIn K mainGlobals "looped" = some (some (.ref f_looped)))
    (l_looped : K.lookup f_looped = some ⟨oc_looped, od_looped, .func (PySem.W.fnOf "looped" "looped" (defArgs s_looped) (defBody s_looped) (defScope s_looped) .none kV_looped dc_looped pm_looped an_looped cd_looped ct_looped), sl_looped⟩)
    (c_looped : PySem.W.codeIn K cd_looped "looped" = true)
    (k_looped : PySem.W.keepIn K (.ref f_looped) = true)
    (a_stabilized : PySem.W.nsIn K mainGlobals "stabilized" = some (some (.ref f_stabilized)))
    (l_stabilized : K.lookup f_stabilized = some ⟨oc_stabilized, od_stabilized, .func (PySem.W.fnOf "stabilized" "stabilized" (defArgs s_stabilized) (defBody s_stabilized) (defScope s_stabilized) .none kV_stabilized dc_stabilized pm_stabilized an_stabilized cd_stabilized ct_stabilized), sl_stabilized⟩)
    (c_stabilized : PySem.W.codeIn K cd_stabilized "stabilized" = true)
    (k_stabilized : PySem.W.keepIn K (.ref f_stabilized) = true)
    (a_symbol_matrix : PySem.W.nsIn K mainGlobals "symbol_matrix" = some (some (.ref f_symbol_matrix)))
    (l_symbol_matrix : K.lookup f_symbol_matrix = some ⟨oc_symbol_matrix, od_symbol_matrix, .func (PySem.W.fnOf "symbol_matrix" "symbol_matrix" (defArgs s_symbol_matrix) (defBody s_symbol_matrix) (defScope s_symbol_matrix) .none kV_symbol_matrix dc_symbol_matrix pm_symbol_matrix an_symbol_matrix cd_symbol_matrix ct_symbol_matrix), sl_symbol_matrix⟩)
    (c_symbol_matrix : PySem.W.codeIn K cd_symbol_matrix "symbol_matrix" = true)
    (k_symbol_matrix : PySem.W.keepIn K (.ref f_symbol_matrix) = true)
    (a_word_matrix : PySem.W.nsIn K mainGlobals "word_matrix" = some (some (.ref f_word_matrix)))
    (l_word_matrix : K.lookup f_word_matrix = some ⟨oc_word_matrix, od_word_matrix, .func (PySem.W.fnOf "word_matrix" "word_matrix" (defArgs s_word_matrix) (defBody s_word_matrix) (defScope s_word_matrix) .none kV_word_matrix dc_word_matrix pm_word_matrix an_word_matrix cd_word_matrix ct_word_matrix), sl_word_matrix⟩)
    (c_word_matrix : PySem.W.codeIn K cd_word_matrix "word_matrix" = true)
    (k_word_matrix : PySem.W.keepIn K (.ref f_word_matrix) = true)
    (a_described : PySem.W.nsIn K mainGlobals "described" = some (some (.ref f_described)))
    (l_described : K.lookup f_described = some ⟨oc_described, od_described, .func (PySem.W.fnOf "described" "described" (defArgs s_described) (defBody s_described) (defScope s_described) .none kV_described dc_described pm_described an_described cd_described ct_described), sl_described⟩)
    (c_described : PySem.W.codeIn K cd_described "described" = true)
    (k_described : PySem.W.keepIn K (.ref f_described) = true)
    (a_acceptance : PySem.W.nsIn K mainGlobals "acceptance" = some (some (.ref f_acceptance)))
    (l_acceptance : K.lookup f_acceptance = some ⟨oc_acceptance, od_acceptance, .func (PySem.W.fnOf "acceptance" "acceptance" (defArgs s_acceptance) (defBody s_acceptance) (defScope s_acceptance) .none kV_acceptance dc_acceptance pm_acceptance an_acceptance cd_acceptance ct_acceptance), sl_acceptance⟩)
    (c_acceptance : PySem.W.codeIn K cd_acceptance "acceptance" = true)
    (k_acceptance : PySem.W.keepIn K (.ref f_acceptance) = true)
    (a_is_expression : PySem.W.nsIn K mainGlobals "is_expression" = some (some (.ref f_is_expression)))
    (l_is_expression : K.lookup f_is_expression = some ⟨oc_is_expression, od_is_expression, .func (PySem.W.fnOf "is_expression" "is_expression" (defArgs s_is_expression) (defBody s_is_expression) (defScope s_is_expression) .none kV_is_expression dc_is_expression pm_is_expression an_is_expression cd_is_expression ct_is_expression), sl_is_expression⟩)
    (c_is_expression : PySem.W.codeIn K cd_is_expression "is_expression" = true)
    (k_is_expression : PySem.W.keepIn K (.ref f_is_expression) = true)
    (a_value_of : PySem.W.nsIn K mainGlobals "value_of" = some (some (.ref f_value_of)))
    (l_value_of : K.lookup f_value_of = some ⟨oc_value_of, od_value_of, .func (PySem.W.fnOf "value_of" "value_of" (defArgs s_value_of) (defBody s_value_of) (defScope s_value_of) .none kV_value_of dc_value_of pm_value_of an_value_of cd_value_of ct_value_of), sl_value_of⟩)
    (c_value_of : PySem.W.codeIn K cd_value_of "value_of" = true)
    (k_value_of : PySem.W.keepIn K (.ref f_value_of) = true)
    (a_length_of : PySem.W.nsIn K mainGlobals "length_of" = some (some (.ref f_length_of)))
    (l_length_of : K.lookup f_length_of = some ⟨oc_length_of, od_length_of, .func (PySem.W.fnOf "length_of" "length_of" (defArgs s_length_of) (defBody s_length_of) (defScope s_length_of) .none kV_length_of dc_length_of pm_length_of an_length_of cd_length_of ct_length_of), sl_length_of⟩)
    (c_length_of : PySem.W.codeIn K cd_length_of "length_of" = true)
    (k_length_of : PySem.W.keepIn K (.ref f_length_of) = true)
    (a_unrolled : PySem.W.nsIn K mainGlobals "unrolled" = some (some (.ref f_unrolled)))
    (l_unrolled : K.lookup f_unrolled = some ⟨oc_unrolled, od_unrolled, .func (PySem.W.fnOf "unrolled" "unrolled" (defArgs s_unrolled) (defBody s_unrolled) (defScope s_unrolled) .none kV_unrolled dc_unrolled pm_unrolled an_unrolled cd_unrolled ct_unrolled), sl_unrolled⟩)
    (c_unrolled : PySem.W.codeIn K cd_unrolled "unrolled" = true)
    (k_unrolled : PySem.W.keepIn K (.ref f_unrolled) = true)
    (a_Monoid_put : PySem.W.findIn K (.ref ad_m) "put" = some (some (.ref f_Monoid_put)))
    (i_Monoid_put : PySem.W.isFn K (.ref f_Monoid_put) = true)
    (l_Monoid_put : K.lookup f_Monoid_put = some ⟨oc_Monoid_put, od_Monoid_put, .func (PySem.W.fnOf "put" "Monoid.put" (defArgs s_Monoid_put) (defBody s_Monoid_put) (defScope s_Monoid_put) .none kV_Monoid_put dc_Monoid_put pm_Monoid_put an_Monoid_put cd_Monoid_put ct_Monoid_put), sl_Monoid_put⟩)
    (c_Monoid_put : PySem.W.codeIn K cd_Monoid_put "Monoid.put" = true)
    (k_Monoid_put : PySem.W.keepIn K (.ref f_Monoid_put) = true)
    (a_Monoid_go_on : PySem.W.findIn K (.ref ad_m) "go_on" = some (some (.ref f_Monoid_go_on)))
    (i_Monoid_go_on : PySem.W.isFn K (.ref f_Monoid_go_on) = true)
    (l_Monoid_go_on : K.lookup f_Monoid_go_on = some ⟨oc_Monoid_go_on, od_Monoid_go_on, .func (PySem.W.fnOf "go_on" "Monoid.go_on" (defArgs s_Monoid_go_on) (defBody s_Monoid_go_on) (defScope s_Monoid_go_on) .none kV_Monoid_go_on dc_Monoid_go_on pm_Monoid_go_on an_Monoid_go_on cd_Monoid_go_on ct_Monoid_go_on), sl_Monoid_go_on⟩)
    (c_Monoid_go_on : PySem.W.codeIn K cd_Monoid_go_on "Monoid.go_on" = true)
    (k_Monoid_go_on : PySem.W.keepIn K (.ref f_Monoid_go_on) = true)
    (a_Monoid_init : PySem.W.findIn K (.ref ad_m) "__init__" = some (some (.ref f_Monoid_init)))
    (i_Monoid_init : PySem.W.isFn K (.ref f_Monoid_init) = true)
    (l_Monoid_init : K.lookup f_Monoid_init = some ⟨oc_Monoid_init, od_Monoid_init, .func (PySem.W.fnOf "__init__" "Monoid.__init__" (defArgs s_Monoid_init) (defBody s_Monoid_init) (defScope s_Monoid_init) .none kV_Monoid_init dc_Monoid_init pm_Monoid_init an_Monoid_init cd_Monoid_init ct_Monoid_init), sl_Monoid_init⟩)
    (c_Monoid_init : PySem.W.codeIn K cd_Monoid_init "Monoid.__init__" = true)
    (k_Monoid_init : PySem.W.keepIn K (.ref f_Monoid_init) = true)
    (a_Monoid_is_too_large : PySem.W.findIn K (.ref ad_m) "is_too_large" = some (some (.ref f_Monoid_is_too_large)))
    (i_Monoid_is_too_large : PySem.W.isFn K (.ref f_Monoid_is_too_large) = true)
    (l_Monoid_is_too_large : K.lookup f_Monoid_is_too_large = some ⟨oc_Monoid_is_too_large, od_Monoid_is_too_large, .func (PySem.W.fnOf "is_too_large" "Monoid.is_too_large" (defArgs s_Monoid_is_too_large) (defBody s_Monoid_is_too_large) (defScope s_Monoid_is_too_large) .none kV_Monoid_is_too_large dc_Monoid_is_too_large pm_Monoid_is_too_large an_Monoid_is_too_large cd_Monoid_is_too_large ct_Monoid_is_too_large), sl_Monoid_is_too_large⟩)
    (c_Monoid_is_too_large : PySem.W.codeIn K cd_Monoid_is_too_large "Monoid.is_too_large" = true)
    (k_Monoid_is_too_large : PySem.W.keepIn K (.ref f_Monoid_is_too_large) = true)
    (a_Monoid_acceptances : PySem.W.findIn K (.ref ad_m) "acceptances" = some (some (.ref f_Monoid_acceptances)))
    (i_Monoid_acceptances : PySem.W.isFn K (.ref f_Monoid_acceptances) = true)
    (l_Monoid_acceptances : K.lookup f_Monoid_acceptances = some ⟨oc_Monoid_acceptances, od_Monoid_acceptances, .func (PySem.W.fnOf "acceptances" "Monoid.acceptances" (defArgs s_Monoid_acceptances) (defBody s_Monoid_acceptances) (defScope s_Monoid_acceptances) .none kV_Monoid_acceptances dc_Monoid_acceptances pm_Monoid_acceptances an_Monoid_acceptances cd_Monoid_acceptances ct_Monoid_acceptances), sl_Monoid_acceptances⟩)
    (c_Monoid_acceptances : PySem.W.codeIn K cd_Monoid_acceptances "Monoid.acceptances" = true)
    (k_Monoid_acceptances : PySem.W.keepIn K (.ref f_Monoid_acceptances) = true)
    (a_Monoid_postfix : PySem.W.findIn K (.ref ad_m) "postfix" = some (some (.ref f_Monoid_postfix)))
    (i_Monoid_postfix : PySem.W.isFn K (.ref f_Monoid_postfix) = true)
    (l_Monoid_postfix : K.lookup f_Monoid_postfix = some ⟨oc_Monoid_postfix, od_Monoid_postfix, .func (PySem.W.fnOf "postfix" "Monoid.postfix" (defArgs s_Monoid_postfix) (defBody s_Monoid_postfix) (defScope s_Monoid_postfix) .none kV_Monoid_postfix dc_Monoid_postfix pm_Monoid_postfix an_Monoid_postfix cd_Monoid_postfix ct_Monoid_postfix), sl_Monoid_postfix⟩)
    (c_Monoid_postfix : PySem.W.codeIn K cd_Monoid_postfix "Monoid.postfix" = true)
    (k_Monoid_postfix : PySem.W.keepIn K (.ref f_Monoid_postfix) = true)
    (a_Search_init : PySem.W.findIn K (.ref ad_s) "__init__" = some (some (.ref f_Search_init)))
    (i_Search_init : PySem.W.isFn K (.ref f_Search_init) = true)
    (l_Search_init : K.lookup f_Search_init = some ⟨oc_Search_init, od_Search_init, .func (PySem.W.fnOf "__init__" "Search.__init__" (defArgs s_Search_init) (defBody s_Search_init) (defScope s_Search_init) .none kV_Search_init dc_Search_init pm_Search_init an_Search_init cd_Search_init ct_Search_init), sl_Search_init⟩)
    (c_Search_init : PySem.W.codeIn K cd_Search_init "Search.__init__" = true)
    (k_Search_init : PySem.W.keepIn K (.ref f_Search_init) = true)
    (a_Search_word_to : PySem.W.findIn K (.ref ad_s) "word_to" = some (some (.ref f_Search_word_to)))
    (i_Search_word_to : PySem.W.isFn K (.ref f_Search_word_to) = true)
    (l_Search_word_to : K.lookup f_Search_word_to = some ⟨oc_Search_word_to, od_Search_word_to, .func (PySem.W.fnOf "word_to" "Search.word_to" (defArgs s_Search_word_to) (defBody s_Search_word_to) (defScope s_Search_word_to) .none kV_Search_word_to dc_Search_word_to pm_Search_word_to an_Search_word_to cd_Search_word_to ct_Search_word_to), sl_Search_word_to⟩)
    (c_Search_word_to : PySem.W.codeIn K cd_Search_word_to "Search.word_to" = true)
    (k_Search_word_to : PySem.W.keepIn K (.ref f_Search_word_to) = true)
    (a_first_above : PySem.W.nsIn K mainGlobals "first_above" = some (some (.ref f_first_above)))
    (l_first_above : K.lookup f_first_above = some ⟨oc_first_above, od_first_above, .func (PySem.W.fnOf "first_above" "first_above" (defArgs s_first_above) (defBody s_first_above) (defScope s_first_above) .none kV_first_above dc_first_above pm_first_above an_first_above cd_first_above ct_first_above), sl_first_above⟩)
    (c_first_above : PySem.W.codeIn K cd_first_above "first_above" = true)
    (k_first_above : PySem.W.keepIn K (.ref f_first_above) = true)
    (a_greatest_cost : PySem.W.nsIn K mainGlobals "greatest_cost" = some (some (.ref f_greatest_cost)))
    (l_greatest_cost : K.lookup f_greatest_cost = some ⟨oc_greatest_cost, od_greatest_cost, .func (PySem.W.fnOf "greatest_cost" "greatest_cost" (defArgs s_greatest_cost) (defBody s_greatest_cost) (defScope s_greatest_cost) .none kV_greatest_cost dc_greatest_cost pm_greatest_cost an_greatest_cost cd_greatest_cost ct_greatest_cost), sl_greatest_cost⟩)
    (c_greatest_cost : PySem.W.codeIn K cd_greatest_cost "greatest_cost" = true)
    (k_greatest_cost : PySem.W.keepIn K (.ref f_greatest_cost) = true)
    (a_Module_init : PySem.W.findIn K (.ref ad_o) "__init__" = some (some (.ref f_Module_init)))
    (i_Module_init : PySem.W.isFn K (.ref f_Module_init) = true)
    (l_Module_init : K.lookup f_Module_init = some ⟨oc_Module_init, od_Module_init, .func (PySem.W.fnOf "__init__" "Module.__init__" (defArgs s_Module_init) (defBody s_Module_init) (defScope s_Module_init) .none kV_Module_init dc_Module_init pm_Module_init an_Module_init cd_Module_init ct_Module_init), sl_Module_init⟩)
    (c_Module_init : PySem.W.codeIn K cd_Module_init "Module.__init__" = true)
    (k_Module_init : PySem.W.keepIn K (.ref f_Module_init) = true)
    (a_Module_create : PySem.W.findIn K (.ref ad_o) "create" = some (some (.ref f_Module_create)))
    (i_Module_create : PySem.W.isFn K (.ref f_Module_create) = true)
    (l_Module_create : K.lookup f_Module_create = some ⟨oc_Module_create, od_Module_create, .func (PySem.W.fnOf "create" "Module.create" (defArgs s_Module_create) (defBody s_Module_create) (defScope s_Module_create) .none kV_Module_create dc_Module_create pm_Module_create an_Module_create cd_Module_create ct_Module_create), sl_Module_create⟩)
    (c_Module_create : PySem.W.codeIn K cd_Module_create "Module.create" = true)
    (k_Module_create : PySem.W.keepIn K (.ref f_Module_create) = true)
    (a_Module_set_transition : PySem.W.findIn K (.ref ad_o) "set_transition" = some (some (.ref f_Module_set_transition)))
    (i_Module_set_transition : PySem.W.isFn K (.ref f_Module_set_transition) = true)
    (l_Module_set_transition : K.lookup f_Module_set_transition = some ⟨oc_Module_set_transition, od_Module_set_transition, .func (PySem.W.fnOf "set_transition" "Module.set_transition" (defArgs s_Module_set_transition) (defBody s_Module_set_transition) (defScope s_Module_set_transition) .none kV_Module_set_transition dc_Module_set_transition pm_Module_set_transition an_Module_set_transition cd_Module_set_transition ct_Module_set_transition), sl_Module_set_transition⟩)
    (c_Module_set_transition : PySem.W.codeIn K cd_Module_set_transition "Module.set_transition" = true)
    (k_Module_set_transition : PySem.W.keepIn K (.ref f_Module_set_transition) = true)
    (a_Module_remove_transition : PySem.W.findIn K (.ref ad_o) "remove_transition" = some (some (.ref f_Module_remove_transition)))
    (i_Module_remove_transition : PySem.W.isFn K (.ref f_Module_remove_transition) = true)
    (l_Module_remove_transition : K.lookup f_Module_remove_transition = some ⟨oc_Module_remove_transition, od_Module_remove_transition, .func (PySem.W.fnOf "remove_transition" "Module.remove_transition" (defArgs s_Module_remove_transition) (defBody s_Module_remove_transition) (defScope s_Module_remove_transition) .none kV_Module_remove_transition dc_Module_remove_transition pm_Module_remove_transition an_Module_remove_transition cd_Module_remove_transition ct_Module_remove_transition), sl_Module_remove_transition⟩)
    (c_Module_remove_transition : PySem.W.codeIn K cd_Module_remove_transition "Module.remove_transition" = true)
    (k_Module_remove_transition : PySem.W.keepIn K (.ref f_Module_remove_transition) = true)
    (a_Module_set_mask : PySem.W.findIn K (.ref ad_o) "set_mask" = some (some (.ref f_Module_set_mask)))
    (i_Module_set_mask : PySem.W.isFn K (.ref f_Module_set_mask) = true)
    (l_Module_set_mask : K.lookup f_Module_set_mask = some ⟨oc_Module_set_mask, od_Module_set_mask, .func (PySem.W.fnOf "set_mask" "Module.set_mask" (defArgs s_Module_set_mask) (defBody s_Module_set_mask) (defScope s_Module_set_mask) .none kV_Module_set_mask dc_Module_set_mask pm_Module_set_mask an_Module_set_mask cd_Module_set_mask ct_Module_set_mask), sl_Module_set_mask⟩)
    (c_Module_set_mask : PySem.W.codeIn K cd_Module_set_mask "Module.set_mask" = true)
    (k_Module_set_mask : PySem.W.keepIn K (.ref f_Module_set_mask) = true)
    (a_Module_about_word : PySem.W.findIn K (.ref ad_o) "about_word" = some (some (.ref f_Module_about_word)))
    (i_Module_about_word : PySem.W.isFn K (.ref f_Module_about_word) = true)
    (l_Module_about_word : K.lookup f_Module_about_word = some ⟨oc_Module_about_word, od_Module_about_word, .func (PySem.W.fnOf "about_word" "Module.about_word" (defArgs s_Module_about_word) (defBody s_Module_about_word) (defScope s_Module_about_word) .none kV_Module_about_word dc_Module_about_word pm_Module_about_word an_Module_about_word cd_Module_about_word ct_Module_about_word), sl_Module_about_word⟩)
    (c_Module_about_word : PySem.W.codeIn K cd_Module_about_word "Module.about_word" = true)
    (k_Module_about_word : PySem.W.keepIn K (.ref f_Module_about_word) = true)
    (a_Module_evaluate : PySem.W.findIn K (.ref ad_o) "evaluate" = some (some (.ref f_Module_evaluate)))
    (i_Module_evaluate : PySem.W.isFn K (.ref f_Module_evaluate) = true)
    (l_Module_evaluate : K.lookup f_Module_evaluate = some ⟨oc_Module_evaluate, od_Module_evaluate, .func (PySem.W.fnOf "evaluate" "Module.evaluate" (defArgs s_Module_evaluate) (defBody s_Module_evaluate) (defScope s_Module_evaluate) .none kV_Module_evaluate dc_Module_evaluate pm_Module_evaluate an_Module_evaluate cd_Module_evaluate ct_Module_evaluate), sl_Module_evaluate⟩)
    (c_Module_evaluate : PySem.W.codeIn K cd_Module_evaluate "Module.evaluate" = true)
    (k_Module_evaluate : PySem.W.keepIn K (.ref f_Module_evaluate) = true)
    (a_Module_unroll : PySem.W.findIn K (.ref ad_o) "unroll" = some (some (.ref f_Module_unroll)))
    (i_Module_unroll : PySem.W.isFn K (.ref f_Module_unroll) = true)
    (l_Module_unroll : K.lookup f_Module_unroll = some ⟨oc_Module_unroll, od_Module_unroll, .func (PySem.W.fnOf "unroll" "Module.unroll" (defArgs s_Module_unroll) (defBody s_Module_unroll) (defScope s_Module_unroll) .none kV_Module_unroll dc_Module_unroll pm_Module_unroll an_Module_unroll cd_Module_unroll ct_Module_unroll), sl_Module_unroll⟩)
    (c_Module_unroll : PySem.W.codeIn K cd_Module_unroll "Module.unroll" = true)
    (k_Module_unroll : PySem.W.keepIn K (.ref f_Module_unroll) = true)
    (a_Module_least_bound : PySem.W.findIn K (.ref ad_o) "least_bound" = some (some (.ref f_Module_least_bound)))
    (i_Module_least_bound : PySem.W.isFn K (.ref f_Module_least_bound) = true)
    (l_Module_least_bound : K.lookup f_Module_least_bound = some ⟨oc_Module_least_bound, od_Module_least_bound, .func (PySem.W.fnOf "least_bound" "Module.least_bound" (defArgs s_Module_least_bound) (defBody s_Module_least_bound) (defScope s_Module_least_bound) .none kV_Module_least_bound dc_Module_least_bound pm_Module_least_bound an_Module_least_bound cd_Module_least_bound ct_Module_least_bound), sl_Module_least_bound⟩)
    (c_Module_least_bound : PySem.W.codeIn K cd_Module_least_bound "Module.least_bound" = true)
    (k_Module_least_bound : PySem.W.keepIn K (.ref f_Module_least_bound) = true)
    (a_Module_witness : PySem.W.findIn K (.ref ad_o) "witness" = some (some (.ref f_Module_witness)))
    (i_Module_witness : PySem.W.isFn K (.ref f_Module_witness) = true)
    (l_Module_witness : K.lookup f_Module_witness = some ⟨oc_Module_witness, od_Module_witness, .func (PySem.W.fnOf "witness" "Module.witness" (defArgs s_Module_witness) (defBody s_Module_witness) (defScope s_Module_witness) .none kV_Module_witness dc_Module_witness pm_Module_witness an_Module_witness cd_Module_witness ct_Module_witness), sl_Module_witness⟩)
    (c_Module_witness : PySem.W.codeIn K cd_Module_witness "Module.witness" = true)
    (k_Module_witness : PySem.W.keepIn K (.ref f_Module_witness) = true)
    (a_Module_about_monoid : PySem.W.findIn K (.ref ad_o) "about_monoid" = some (some (.ref f_Module_about_monoid)))
    (i_Module_about_monoid : PySem.W.isFn K (.ref f_Module_about_monoid) = true)
    (l_Module_about_monoid : K.lookup f_Module_about_monoid = some ⟨oc_Module_about_monoid, od_Module_about_monoid, .func (PySem.W.fnOf "about_monoid" "Module.about_monoid" (defArgs s_Module_about_monoid) (defBody s_Module_about_monoid) (defScope s_Module_about_monoid) .none kV_Module_about_monoid dc_Module_about_monoid pm_Module_about_monoid an_Module_about_monoid cd_Module_about_monoid ct_Module_about_monoid), sl_Module_about_monoid⟩)
    (c_Module_about_monoid : PySem.W.codeIn K cd_Module_about_monoid "Module.about_monoid" = true)
    (k_Module_about_monoid : PySem.W.keepIn K (.ref f_Module_about_monoid) = true)
    (a_Module_word_above : PySem.W.findIn K (.ref ad_o) "word_above" = some (some (.ref f_Module_word_above)))
    (i_Module_word_above : PySem.W.isFn K (.ref f_Module_word_above) = true)
    (l_Module_word_above : K.lookup f_Module_word_above = some ⟨oc_Module_word_above, od_Module_word_above, .func (PySem.W.fnOf "word_above" "Module.word_above" (defArgs s_Module_word_above) (defBody s_Module_word_above) (defScope s_Module_word_above) .none kV_Module_word_above dc_Module_word_above pm_Module_word_above an_Module_word_above cd_Module_word_above ct_Module_word_above), sl_Module_word_above⟩)
    (c_Module_word_above : PySem.W.codeIn K cd_Module_word_above "Module.word_above" = true)
    (k_Module_word_above : PySem.W.keepIn K (.ref f_Module_word_above) = true)
    (a_Module_status : PySem.W.findIn K (.ref ad_o) "status" = some (some (.ref f_Module_status)))
    (i_Module_status : PySem.W.isFn K (.ref f_Module_status) = true)
    (l_Module_status : K.lookup f_Module_status = some ⟨oc_Module_status, od_Module_status, .func (PySem.W.fnOf "status" "Module.status" (defArgs s_Module_status) (defBody s_Module_status) (defScope s_Module_status) .none kV_Module_status dc_Module_status pm_Module_status an_Module_status cd_Module_status ct_Module_status), sl_Module_status⟩)
    (c_Module_status : PySem.W.codeIn K cd_Module_status "Module.status" = true)
    (k_Module_status : PySem.W.keepIn K (.ref f_Module_status) = true)
    (a_done : PySem.W.nsIn K mainGlobals "done" = some (some (.ref f_done)))
    (l_done : K.lookup f_done = some ⟨oc_done, od_done, .func (PySem.W.fnOf "done" "done" (defArgs s_done) (defBody s_done) (defScope s_done) .none kV_done dc_done pm_done an_done cd_done ct_done), sl_done⟩)
    (c_done : PySem.W.codeIn K cd_done "done" = true)
    (k_done : PySem.W.keepIn K (.ref f_done) = true)
    (a_answers : PySem.W.nsIn K mainGlobals "answers" = some (some (.ref f_answers)))
    (l_answers : K.lookup f_answers = some ⟨oc_answers, od_answers, .func (PySem.W.fnOf "answers" "answers" (defArgs s_answers) (defBody s_answers) (defScope s_answers) .none kV_answers dc_answers pm_answers an_answers cd_answers ct_answers), sl_answers⟩)
    (c_answers : PySem.W.codeIn K cd_answers "answers" = true)
    (k_answers : PySem.W.keepIn K (.ref f_answers) = true)
    (v_nums : TupOk ob_nums (intsV numbers)) (v_wrow : TupOk ob_wrow (intsV withRow)) :
    ∃ fd : FuncData, (∀ (s : Shared) (us : List Value), us.length = (["calls"] : List Str).length → BindsTo s fd ⟨us, []⟩ ((["calls"] : List Str).zip us)) ∧ ∀ base : Heap, K.In base → base.Ns mainGlobals mg → FnOk P w K mg base CX0 9 fa fd ["calls"] (sp1 (p_answers K)) := by
  have e := hfa.symm.trans (PySem.W.mg_of X G a_answers)
  cases e
  have T : Txt K mg ⟨ad_a, ad_m, ad_s, ad_o, ad_nums, ad_wrow⟩ := ⟨cls_at pg_a hd_a po_a sa_a, cls_at pg_m hd_m po_m sa_m, cls_at pg_s hd_s po_s sa_s, cls_at pg_o hd_o po_o sa_o, nf_a1, nf_a2, nf_a3, nf_a4, nf_a5, nf_m1, nf_m2, nf_m3, nf_s1, nf_s2, nf_o1, PySem.W.mg_none_of X G nb_len, PySem.W.mg_none_of X G nb_range, PySem.W.mg_none_of X G nb_min, PySem.W.mg_none_of X G nb_max, PySem.W.mg_none_of X G nb_all, PySem.W.mg_none_of X G nb_tuple, PySem.W.mg_none_of X G nb_list, PySem.W.mg_none_of X G nb_enumerate, int_at X G cc_FAR, int_at X G cc_NONE, int_at X G cc_JOIN, int_at X G cc_AGAIN, int_at X G cc_TOO_LONG, int_at X G cc_MOST, int_at X G cc_MOST_WEIGHT, int_at X G cc_MOST_COUNT, int_at X G cc_MOST_BOUND, int_at X G cc_MOST_LEAST, PySem.W.mg_of X G gt_nums, PySem.W.mg_of X G gt_wrow, v_nums.at lt_nums, v_wrow.at lt_wrow⟩
  have F_Automaton_init : InitAt K mg "Automaton" ad_a "Automaton.__init__" s_Automaton_init ["self", "states", "symbols"] := init_at X G (fun _ _ _ _ _ _ us hl => match us, hl with | [_, _, _], _ => rfl) g_a mk_a kc_a a_Automaton_init i_Automaton_init l_Automaton_init c_Automaton_init k_Automaton_init
  have F_Automaton_knows : MethAt K ad_a "knows" "Automaton.knows" s_Automaton_knows ["self", "symbol", "source", "target"] := meth_at (fun _ _ _ _ _ _ us hl => match us, hl with | [_, _, _, _], _ => rfl) a_Automaton_knows i_Automaton_knows l_Automaton_knows c_Automaton_knows k_Automaton_knows
  have F_Automaton_weight_of : MethAt K ad_a "weight_of" "Automaton.weight_of" s_Automaton_weight_of ["self", "symbol", "source", "target"] := meth_at (fun _ _ _ _ _ _ us hl => match us, hl with | [_, _, _, _], _ => rfl) a_Automaton_weight_of i_Automaton_weight_of l_Automaton_weight_of c_Automaton_weight_of k_Automaton_weight_of
  have F_Automaton_rows_of : MethAt K ad_a "rows_of" "Automaton.rows_of" s_Automaton_rows_of ["self", "symbol"] := meth_at (fun _ _ _ _ _ _ us hl => match us, hl with | [_, _], _ => rfl) a_Automaton_rows_of i_Automaton_rows_of l_Automaton_rows_of c_Automaton_rows_of k_Automaton_rows_of
  have F_Automaton_is_mask : MethAt K ad_a "is_mask" "Automaton.is_mask" s_Automaton_is_mask ["self", "mask"] := meth_at (fun _ _ _ _ _ _ us hl => match us, hl with | [_, _], _ => rfl) a_Automaton_is_mask i_Automaton_is_mask l_Automaton_is_mask c_Automaton_is_mask k_Automaton_is_mask
  have F_Automaton_is_word : MethAt K ad_a "is_word" "Automaton.is_word" s_Automaton_is_word ["self", "word"] := meth_at (fun _ _ _ _ _ _ us hl => match us, hl with | [_, _], _ => rfl) a_Automaton_is_word i_Automaton_is_word l_Automaton_is_word c_Automaton_is_word k_Automaton_is_word
  have F_Automaton_first_costs : MethAt K ad_a "first_costs" "Automaton.first_costs" s_Automaton_first_costs ["self"] := meth_at (fun _ _ _ _ _ _ us hl => match us, hl with | [_], _ => rfl) a_Automaton_first_costs i_Automaton_first_costs l_Automaton_first_costs c_Automaton_first_costs k_Automaton_first_costs
  have F_Automaton_accepted_at : MethAt K ad_a "accepted_at" "Automaton.accepted_at" s_Automaton_accepted_at ["self", "costs"] := meth_at (fun _ _ _ _ _ _ us hl => match us, hl with | [_, _], _ => rfl) a_Automaton_accepted_at i_Automaton_accepted_at l_Automaton_accepted_at c_Automaton_accepted_at k_Automaton_accepted_at
  have F_next_costs : FunAt K mg "next_costs" "next_costs" s_next_costs ["rows", "costs", "top"] := fun_at X G (fun _ _ _ _ _ _ us hl => match us, hl with | [_, _, _], _ => rfl) a_next_costs l_next_costs c_next_costs k_next_costs
  have F_cost_of : FunAt K mg "cost_of" "cost_of" s_cost_of ["automaton", "word"] := fun_at X G (fun _ _ _ _ _ _ us hl => match us, hl with | [_, _], _ => rfl) a_cost_of l_cost_of c_cost_of k_cost_of
  have F_entry_of : FunAt K mg "entry_of" "entry_of" s_entry_of ["weight"] := fun_at X G (fun _ _ _ _ _ _ us hl => match us, hl with | [_], _ => rfl) a_entry_of l_entry_of c_entry_of k_entry_of
  have F_matrix_of : FunAt K mg "matrix_of" "matrix_of" s_matrix_of ["rows"] := fun_at X G (fun _ _ _ _ _ _ us hl => match us, hl with | [_], _ => rfl) a_matrix_of l_matrix_of c_matrix_of k_matrix_of
  have F_unit_of : FunAt K mg "unit_of" "unit_of" s_unit_of ["size"] := fun_at X G (fun _ _ _ _ _ _ us hl => match us, hl with | [_], _ => rfl) a_unit_of l_unit_of c_unit_of k_unit_of
  have F_product : FunAt K mg "product" "product" s_product ["one", "other"] := fun_at X G (fun _ _ _ _ _ _ us hl => match us, hl with | [_, _], _ => rfl) a_product l_product c_product k_product
  have F_is_idempotent : FunAt K mg "is_idempotent" "is_idempotent" s_is_idempotent ["one"] := fun_at X G (fun _ _ _ _ _ _ us hl => match us, hl with | [_], _ => rfl) a_is_idempotent l_is_idempotent c_is_idempotent k_is_idempotent
  have F_looped : FunAt K mg "looped" "looped" s_looped ["entry"] := fun_at X G (fun _ _ _ _ _ _ us hl => match us, hl with | [_], _ => rfl) a_looped l_looped c_looped k_looped
  have F_stabilized : FunAt K mg "stabilized" "stabilized" s_stabilized ["one"] := fun_at X G (fun _ _ _ _ _ _ us hl => match us, hl with | [_], _ => rfl) a_stabilized l_stabilized c_stabilized k_stabilized
  have F_symbol_matrix : FunAt K mg "symbol_matrix" "symbol_matrix" s_symbol_matrix ["automaton", "symbol"] := fun_at X G (fun _ _ _ _ _ _ us hl => match us, hl with | [_, _], _ => rfl) a_symbol_matrix l_symbol_matrix c_symbol_matrix k_symbol_matrix
  have F_word_matrix : FunAt K mg "word_matrix" "word_matrix" s_word_matrix ["automaton", "word"] := fun_at X G (fun _ _ _ _ _ _ us hl => match us, hl with | [_, _], _ => rfl) a_word_matrix l_word_matrix c_word_matrix k_word_matrix
  have F_described : FunAt K mg "described" "described" s_described ["matrix"] := fun_at X G (fun _ _ _ _ _ _ us hl => match us, hl with | [_], _ => rfl) a_described l_described c_described k_described
  have F_acceptance : FunAt K mg "acceptance" "acceptance" s_acceptance ["automaton", "matrix"] := fun_at X G (fun _ _ _ _ _ _ us hl => match us, hl with | [_, _], _ => rfl) a_acceptance l_acceptance c_acceptance k_acceptance
  have F_is_expression : FunAt K mg "is_expression" "is_expression" s_is_expression ["automaton", "row"] := fun_at X G (fun _ _ _ _ _ _ us hl => match us, hl with | [_, _], _ => rfl) a_is_expression l_is_expression c_is_expression k_is_expression
  have F_value_of : FunAt K mg "value_of" "value_of" s_value_of ["automaton", "row"] := fun_at X G (fun _ _ _ _ _ _ us hl => match us, hl with | [_, _], _ => rfl) a_value_of l_value_of c_value_of k_value_of
  have F_length_of : FunAt K mg "length_of" "length_of" s_length_of ["row", "count"] := fun_at X G (fun _ _ _ _ _ _ us hl => match us, hl with | [_, _], _ => rfl) a_length_of l_length_of c_length_of k_length_of
  have F_unrolled : FunAt K mg "unrolled" "unrolled" s_unrolled ["row", "count"] := fun_at X G (fun _ _ _ _ _ _ us hl => match us, hl with | [_, _], _ => rfl) a_unrolled l_unrolled c_unrolled k_unrolled
  have F_Monoid_put : MethAt K ad_m "put" "Monoid.put" s_Monoid_put ["self", "matrix", "parts"] := meth_at (fun _ _ _ _ _ _ us hl => match us, hl with | [_, _, _], _ => rfl) a_Monoid_put i_Monoid_put l_Monoid_put c_Monoid_put k_Monoid_put
  have F_Monoid_go_on : MethAt K ad_m "go_on" "Monoid.go_on" s_Monoid_go_on ["self", "place"] := meth_at (fun _ _ _ _ _ _ us hl => match us, hl with | [_, _], _ => rfl) a_Monoid_go_on i_Monoid_go_on l_Monoid_go_on c_Monoid_go_on k_Monoid_go_on
  have F_Monoid_init : InitAt K mg "Monoid" ad_m "Monoid.__init__" s_Monoid_init ["self", "automaton"] := init_at X G (fun _ _ _ _ _ _ us hl => match us, hl with | [_, _], _ => rfl) g_m mk_m kc_m a_Monoid_init i_Monoid_init l_Monoid_init c_Monoid_init k_Monoid_init
  have F_Monoid_is_too_large : MethAt K ad_m "is_too_large" "Monoid.is_too_large" s_Monoid_is_too_large ["self"] := meth_at (fun _ _ _ _ _ _ us hl => match us, hl with | [_], _ => rfl) a_Monoid_is_too_large i_Monoid_is_too_large l_Monoid_is_too_large c_Monoid_is_too_large k_Monoid_is_too_large
  have F_Monoid_acceptances : MethAt K ad_m "acceptances" "Monoid.acceptances" s_Monoid_acceptances ["self", "automaton"] := meth_at (fun _ _ _ _ _ _ us hl => match us, hl with | [_, _], _ => rfl) a_Monoid_acceptances i_Monoid_acceptances l_Monoid_acceptances c_Monoid_acceptances k_Monoid_acceptances
  have F_Monoid_postfix : MethAt K ad_m "postfix" "Monoid.postfix" s_Monoid_postfix ["self", "place"] := meth_at (fun _ _ _ _ _ _ us hl => match us, hl with | [_, _], _ => rfl) a_Monoid_postfix i_Monoid_postfix l_Monoid_postfix c_Monoid_postfix k_Monoid_postfix
  have F_Search_init : InitAt K mg "Search" ad_s "Search.__init__" s_Search_init ["self", "automaton", "top"] := init_at X G (fun _ _ _ _ _ _ us hl => match us, hl with | [_, _, _], _ => rfl) g_s mk_s kc_s a_Search_init i_Search_init l_Search_init c_Search_init k_Search_init
  have F_Search_word_to : MethAt K ad_s "word_to" "Search.word_to" s_Search_word_to ["self", "place"] := meth_at (fun _ _ _ _ _ _ us hl => match us, hl with | [_, _], _ => rfl) a_Search_word_to i_Search_word_to l_Search_word_to c_Search_word_to k_Search_word_to
  have F_first_above : FunAt K mg "first_above" "first_above" s_first_above ["automaton", "bound"] := fun_at X G (fun _ _ _ _ _ _ us hl => match us, hl with | [_, _], _ => rfl) a_first_above l_first_above c_first_above k_first_above
  have F_greatest_cost : FunAt K mg "greatest_cost" "greatest_cost" s_greatest_cost ["automaton", "top"] := fun_at X G (fun _ _ _ _ _ _ us hl => match us, hl with | [_, _], _ => rfl) a_greatest_cost l_greatest_cost c_greatest_cost k_greatest_cost
  have F_Module_init : InitAt K mg "Module" ad_o "Module.__init__" s_Module_init ["self"] := init_at X G (fun _ _ _ _ _ _ us hl => match us, hl with | [_], _ => rfl) g_o mk_o kc_o a_Module_init i_Module_init l_Module_init c_Module_init k_Module_init
  have F_Module_create : MethAt K ad_o "create" "Module.create" s_Module_create ["self", "states", "symbols"] := meth_at (fun _ _ _ _ _ _ us hl => match us, hl with | [_, _, _], _ => rfl) a_Module_create i_Module_create l_Module_create c_Module_create k_Module_create
  have F_Module_set_transition : MethAt K ad_o "set_transition" "Module.set_transition" s_Module_set_transition ["self", "key", "weight"] := meth_at (fun _ _ _ _ _ _ us hl => match us, hl with | [_, _, _], _ => rfl) a_Module_set_transition i_Module_set_transition l_Module_set_transition c_Module_set_transition k_Module_set_transition
  have F_Module_remove_transition : MethAt K ad_o "remove_transition" "Module.remove_transition" s_Module_remove_transition ["self", "key"] := meth_at (fun _ _ _ _ _ _ us hl => match us, hl with | [_, _], _ => rfl) a_Module_remove_transition i_Module_remove_transition l_Module_remove_transition c_Module_remove_transition k_Module_remove_transition
  have F_Module_set_mask : MethAt K ad_o "set_mask" "Module.set_mask" s_Module_set_mask ["self", "is_initial", "mask"] := meth_at (fun _ _ _ _ _ _ us hl => match us, hl with | [_, _, _], _ => rfl) a_Module_set_mask i_Module_set_mask l_Module_set_mask c_Module_set_mask k_Module_set_mask
  have F_Module_about_word : MethAt K ad_o "about_word" "Module.about_word" s_Module_about_word ["self", "number", "word"] := meth_at (fun _ _ _ _ _ _ us hl => match us, hl with | [_, _, _], _ => rfl) a_Module_about_word i_Module_about_word l_Module_about_word c_Module_about_word k_Module_about_word
  have F_Module_evaluate : MethAt K ad_o "evaluate" "Module.evaluate" s_Module_evaluate ["self", "row"] := meth_at (fun _ _ _ _ _ _ us hl => match us, hl with | [_, _], _ => rfl) a_Module_evaluate i_Module_evaluate l_Module_evaluate c_Module_evaluate k_Module_evaluate
  have F_Module_unroll : MethAt K ad_o "unroll" "Module.unroll" s_Module_unroll ["self", "number", "count", "row"] := meth_at (fun _ _ _ _ _ _ us hl => match us, hl with | [_, _, _, _], _ => rfl) a_Module_unroll i_Module_unroll l_Module_unroll c_Module_unroll k_Module_unroll
  have F_Module_least_bound : MethAt K ad_o "least_bound" "Module.least_bound" s_Module_least_bound ["self"] := meth_at (fun _ _ _ _ _ _ us hl => match us, hl with | [_], _ => rfl) a_Module_least_bound i_Module_least_bound l_Module_least_bound c_Module_least_bound k_Module_least_bound
  have F_Module_witness : MethAt K ad_o "witness" "Module.witness" s_Module_witness ["self", "monoid", "place"] := meth_at (fun _ _ _ _ _ _ us hl => match us, hl with | [_, _, _], _ => rfl) a_Module_witness i_Module_witness l_Module_witness c_Module_witness k_Module_witness
  have F_Module_about_monoid : MethAt K ad_o "about_monoid" "Module.about_monoid" s_Module_about_monoid ["self", "number", "index"] := meth_at (fun _ _ _ _ _ _ us hl => match us, hl with | [_, _, _], _ => rfl) a_Module_about_monoid i_Module_about_monoid l_Module_about_monoid c_Module_about_monoid k_Module_about_monoid
  have F_Module_word_above : MethAt K ad_o "word_above" "Module.word_above" s_Module_word_above ["self", "bound"] := meth_at (fun _ _ _ _ _ _ us hl => match us, hl with | [_, _], _ => rfl) a_Module_word_above i_Module_word_above l_Module_word_above c_Module_word_above k_Module_word_above
  have F_Module_status : MethAt K ad_o "status" "Module.status" s_Module_status ["self"] := meth_at (fun _ _ _ _ _ _ us hl => match us, hl with | [_], _ => rfl) a_Module_status i_Module_status l_Module_status c_Module_status k_Module_status
  have F_done : FunAt K mg "done" "done" s_done ["module", "number", "given", "row"] := fun_at X G (fun _ _ _ _ _ _ us hl => match us, hl with | [_, _, _, _], _ => rfl) a_done l_done c_done k_done
  have F_answers := fun_mk (st := s_answers) l_answers c_answers k_answers
  exact ⟨_, fun s us hu => match us, hu with | [_], _ => .of_eq rfl, fun base _ _ => all_ok T F_Automaton_init F_Automaton_knows F_Automaton_weight_of F_Automaton_rows_of F_Automaton_is_mask F_Automaton_is_word F_Automaton_first_costs F_Automaton_accepted_at F_next_costs F_cost_of F_entry_of F_matrix_of F_unit_of F_product F_is_idempotent F_looped F_stabilized F_symbol_matrix F_word_matrix F_described F_acceptance F_is_expression F_value_of F_length_of F_unrolled F_Monoid_put F_Monoid_go_on F_Monoid_init F_Monoid_is_too_large F_Monoid_acceptances F_Monoid_postfix F_Search_init F_Search_word_to F_first_above F_greatest_cost F_Module_init F_Module_create F_Module_set_transition F_Module_remove_transition F_Module_set_mask F_Module_about_word F_Module_evaluate F_Module_unroll F_Module_least_bound F_Module_witness F_Module_about_monoid F_Module_word_above F_Module_status F_done F_answers⟩
end Cr
open PySem PySem.W PyProof.Rows
set_option maxRecDepth 100000 in
set_option maxHeartbeats 0 in
theorem PySem.Challenge.cw_costwords_s01_answers_holds : PySem.Challenge.rw_costwords_s01_answers.Holds := by
  w_on; k_headS; (case hw => exact ⟨[.list [.int 20]], by decide +kernel, by decide +kernel⟩)
  k_fillS
  refine L2.walk_specK (r := PySem.Challenge.rw_costwords_s01_answers) (k := 9) (CX := L2.CX0) (ps := ["calls"]) (sp := fun K => Cr.sp1 (Cr.p_answers K)) (by decide +kernel) rfl rfl ⟨rfl, by decide, by decide⟩ (fun w h Y => PySem.W.kIn_of Y) ?F ?S (fun _ _ _ _ z => z)
  case F =>
    intro w mg fa h Y KX G hmg
    refine' Cr.facts_all KX G hmg ?g_a ?pg_a ?hd_a ?po_a ?sa_a ?mk_a ?kc_a ?nf_a1 ?nf_a2 ?nf_a3 ?nf_a4 ?nf_a5 ?g_m ?pg_m ?hd_m ?po_m ?sa_m ?mk_m ?kc_m ?nf_m1 ?nf_m2 ?nf_m3 ?g_s ?pg_s ?hd_s ?po_s ?sa_s ?mk_s ?kc_s ?nf_s1 ?nf_s2 ?g_o ?pg_o ?hd_o ?po_o ?sa_o ?mk_o ?kc_o ?nf_o1 ?nb_len ?nb_range ?nb_min ?nb_max ?nb_all ?nb_tuple ?nb_list ?nb_enumerate ?cc_FAR ?cc_NONE ?cc_JOIN ?cc_AGAIN ?cc_TOO_LONG ?cc_MOST ?cc_MOST_WEIGHT ?cc_MOST_COUNT ?cc_MOST_BOUND ?cc_MOST_LEAST ?gt_nums ?lt_nums ?gt_wrow ?lt_wrow ?a_Automaton_init ?i_Automaton_init ?l_Automaton_init ?c_Automaton_init ?k_Automaton_init ?a_Automaton_knows ?i_Automaton_knows ?l_Automaton_knows ?c_Automaton_knows ?k_Automaton_knows ?a_Automaton_weight_of ?i_Automaton_weight_of ?l_Automaton_weight_of ?c_Automaton_weight_of ?k_Automaton_weight_of ?a_Automaton_rows_of ?i_Automaton_rows_of ?l_Automaton_rows_of ?c_Automaton_rows_of ?k_Automaton_rows_of ?a_Automaton_is_mask ?i_Automaton_is_mask ?l_Automaton_is_mask ?c_Automaton_is_mask ?k_Automaton_is_mask ?a_Automaton_is_word ?i_Automaton_is_word ?l_Automaton_is_word ?c_Automaton_is_word ?k_Automaton_is_word ?a_Automaton_first_costs ?i_Automaton_first_costs ?l_Automaton_first_costs ?c_Automaton_first_costs ?k_Automaton_first_costs ?a_Automaton_accepted_at ?i_Automaton_accepted_at ?l_Automaton_accepted_at ?c_Automaton_accepted_at ?k_Automaton_accepted_at ?a_next_costs ?l_next_costs ?c_next_costs ?k_next_costs ?a_cost_of ?l_cost_of ?c_cost_of ?k_cost_of ?a_entry_of ?l_entry_of ?c_entry_of ?k_entry_of ?a_matrix_of ?l_matrix_of ?c_matrix_of ?k_matrix_of ?a_unit_of ?l_unit_of ?c_unit_of ?k_unit_of ?a_product ?l_product ?c_product ?k_product ?a_is_idempotent ?l_is_idempotent ?c_is_idempotent ?k_is_idempotent ?a_looped ?l_looped ?c_looped ?k_looped ?a_stabilized ?l_stabilized ?c_stabilized ?k_stabilized ?a_symbol_matrix ?l_symbol_matrix ?c_symbol_matrix ?k_symbol_matrix ?a_word_matrix ?l_word_matrix ?c_word_matrix ?k_word_matrix ?a_described ?l_described ?c_described ?k_described ?a_acceptance ?l_acceptance ?c_acceptance ?k_acceptance ?a_is_expression ?l_is_expression ?c_is_expression ?k_is_expression ?a_value_of ?l_value_of ?c_value_of ?k_value_of ?a_length_of ?l_length_of ?c_length_of ?k_length_of ?a_unrolled ?l_unrolled ?c_unrolled ?k_unrolled ?a_Monoid_put ?i_Monoid_put ?l_Monoid_put ?c_Monoid_put ?k_Monoid_put ?a_Monoid_go_on ?i_Monoid_go_on ?l_Monoid_go_on ?c_Monoid_go_on ?k_Monoid_go_on ?a_Monoid_init ?i_Monoid_init ?l_Monoid_init ?c_Monoid_init ?k_Monoid_init ?a_Monoid_is_too_large ?i_Monoid_is_too_large ?l_Monoid_is_too_large ?c_Monoid_is_too_large ?k_Monoid_is_too_large ?a_Monoid_acceptances ?i_Monoid_acceptances ?l_Monoid_acceptances ?c_Monoid_acceptances ?k_Monoid_acceptances ?a_Monoid_postfix ?i_Monoid_postfix ?l_Monoid_postfix ?c_Monoid_postfix ?k_Monoid_postfix ?a_Search_init ?i_Search_init ?l_Search_init ?c_Search_init ?k_Search_init ?a_Search_word_to ?i_Search_word_to ?l_Search_word_to ?c_Search_word_to ?k_Search_word_to ?a_first_above ?l_first_above ?c_first_above ?k_first_above ?a_greatest_cost ?l_greatest_cost ?c_greatest_cost ?k_greatest_cost ?a_Module_init ?i_Module_init ?l_Module_init ?c_Module_init ?k_Module_init ?a_Module_create ?i_Module_create ?l_Module_create ?c_Module_create ?k_Module_create ?a_Module_set_transition ?i_Module_set_transition ?l_Module_set_transition ?c_Module_set_transition ?k_Module_set_transition ?a_Module_remove_transition ?i_Module_remove_transition ?l_Module_remove_transition ?c_Module_remove_transition ?k_Module_remove_transition ?a_Module_set_mask ?i_Module_set_mask ?l_Module_set_mask ?c_Module_set_mask ?k_Module_set_mask ?a_Module_about_word ?i_Module_about_word ?l_Module_about_word ?c_Module_about_word ?k_Module_about_word ?a_Module_evaluate ?i_Module_evaluate ?l_Module_evaluate ?c_Module_evaluate ?k_Module_evaluate ?a_Module_unroll ?i_Module_unroll ?l_Module_unroll ?c_Module_unroll ?k_Module_unroll ?a_Module_least_bound ?i_Module_least_bound ?l_Module_least_bound ?c_Module_least_bound ?k_Module_least_bound ?a_Module_witness ?i_Module_witness ?l_Module_witness ?c_Module_witness ?k_Module_witness ?a_Module_about_monoid ?i_Module_about_monoid ?l_Module_about_monoid ?c_Module_about_monoid ?k_Module_about_monoid ?a_Module_word_above ?i_Module_word_above ?l_Module_word_above ?c_Module_word_above ?k_Module_word_above ?a_Module_status ?i_Module_status ?l_Module_status ?c_Module_status ?k_Module_status ?a_done ?l_done ?c_done ?k_done ?a_answers ?l_answers ?c_answers ?k_answers ?v_nums ?v_wrow
    (case g_a => k_is)
    (case pg_a => k_is)
    (case hd_a => k_is)
    (case po_a => k_is)
    (case sa_a => k_is)
    (case mk_a => k_is)
    (case kc_a => k_is)
    (case nf_a1 => k_is)
    (case nf_a2 => k_is)
    (case nf_a3 => k_is)
    (case nf_a4 => k_is)
    (case nf_a5 => k_is)
    (case g_m => k_is)
    (case pg_m => k_is)
    (case hd_m => k_is)
    (case po_m => k_is)
    (case sa_m => k_is)
    (case mk_m => k_is)
    (case kc_m => k_is)
    (case nf_m1 => k_is)
    (case nf_m2 => k_is)
    (case nf_m3 => k_is)
    (case g_s => k_is)
    (case pg_s => k_is)
    (case hd_s => k_is)
    (case po_s => k_is)
    (case sa_s => k_is)
    (case mk_s => k_is)
    (case kc_s => k_is)
    (case nf_s1 => k_is)
    (case nf_s2 => k_is)
    (case g_o => k_is)
    (case pg_o => k_is)
    (case hd_o => k_is)
    (case po_o => k_is)
    (case sa_o => k_is)
    (case mk_o => k_is)
    (case kc_o => k_is)
    (case nf_o1 => k_is)
    (case nb_len => k_is)
    (case nb_range => k_is)
    (case nb_min => k_is)
    (case nb_max => k_is)
    (case nb_all => k_is)
    (case nb_tuple => k_is)
    (case nb_list => k_is)
    (case nb_enumerate => k_is)
    (case cc_FAR => k_is)
    (case cc_NONE => k_is)
    (case cc_JOIN => k_is)
    (case cc_AGAIN => k_is)
    (case cc_TOO_LONG => k_is)
    (case cc_MOST => k_is)
    (case cc_MOST_WEIGHT => k_is)
    (case cc_MOST_COUNT => k_is)
    (case cc_MOST_BOUND => k_is)
    (case cc_MOST_LEAST => k_is)
    (case gt_nums => k_is)
    (case lt_nums => k_is)
    (case gt_wrow => k_is)
    (case lt_wrow => k_is)
    (case a_Automaton_init => k_is)
    (case i_Automaton_init => k_is)
    (case l_Automaton_init => k_is)
    (case c_Automaton_init => k_is)
    (case k_Automaton_init => k_is)
    (case a_Automaton_knows => k_is)
    (case i_Automaton_knows => k_is)
    (case l_Automaton_knows => k_is)
    (case c_Automaton_knows => k_is)
    (case k_Automaton_knows => k_is)
    (case a_Automaton_weight_of => k_is)
    (case i_Automaton_weight_of => k_is)
    (case l_Automaton_weight_of => k_is)
    (case c_Automaton_weight_of => k_is)
    (case k_Automaton_weight_of => k_is)
    (case a_Automaton_rows_of => k_is)
    (case i_Automaton_rows_of => k_is)
    (case l_Automaton_rows_of => k_is)
    (case c_Automaton_rows_of => k_is)
    (case k_Automaton_rows_of => k_is)
    (case a_Automaton_is_mask => k_is)
    (case i_Automaton_is_mask => k_is)
    (case l_Automaton_is_mask => k_is)
    (case c_Automaton_is_mask => k_is)
    (case k_Automaton_is_mask => k_is)
    (case a_Automaton_is_word => k_is)
    (case i_Automaton_is_word => k_is)
    (case l_Automaton_is_word => k_is)
    (case c_Automaton_is_word => k_is)
    (case k_Automaton_is_word => k_is)
    (case a_Automaton_first_costs => k_is)
    (case i_Automaton_first_costs => k_is)
    (case l_Automaton_first_costs => k_is)
    (case c_Automaton_first_costs => k_is)
    (case k_Automaton_first_costs => k_is)
    (case a_Automaton_accepted_at => k_is)
    (case i_Automaton_accepted_at => k_is)
    (case l_Automaton_accepted_at => k_is)
    (case c_Automaton_accepted_at => k_is)
    (case k_Automaton_accepted_at => k_is)
    (case a_next_costs => k_is)
    (case l_next_costs => k_is)
    (case c_next_costs => k_is)
    (case k_next_costs => k_is)
    (case a_cost_of => k_is)
    (case l_cost_of => k_is)
    (case c_cost_of => k_is)
    (case k_cost_of => k_is)
    (case a_entry_of => k_is)
    (case l_entry_of => k_is)
    (case c_entry_of => k_is)
    (case k_entry_of => k_is)
    (case a_matrix_of => k_is)
    (case l_matrix_of => k_is)
    (case c_matrix_of => k_is)
    (case k_matrix_of => k_is)
    (case a_unit_of => k_is)
    (case l_unit_of => k_is)
    (case c_unit_of => k_is)
    (case k_unit_of => k_is)
    (case a_product => k_is)
    (case l_product => k_is)
    (case c_product => k_is)
    (case k_product => k_is)
    (case a_is_idempotent => k_is)
    (case l_is_idempotent => k_is)
    (case c_is_idempotent => k_is)
    (case k_is_idempotent => k_is)
    (case a_looped => k_is)
    (case l_looped => k_is)
    (case c_looped => k_is)
    (case k_looped => k_is)
    (case a_stabilized => k_is)
    (case l_stabilized => k_is)
    (case c_stabilized => k_is)
    (case k_stabilized => k_is)
    (case a_symbol_matrix => k_is)
    (case l_symbol_matrix => k_is)
    (case c_symbol_matrix => k_is)
    (case k_symbol_matrix => k_is)
    (case a_word_matrix => k_is)
    (case l_word_matrix => k_is)
    (case c_word_matrix => k_is)
    (case k_word_matrix => k_is)
    (case a_described => k_is)
    (case l_described => k_is)
    (case c_described => k_is)
    (case k_described => k_is)
    (case a_acceptance => k_is)
    (case l_acceptance => k_is)
    (case c_acceptance => k_is)
    (case k_acceptance => k_is)
    (case a_is_expression => k_is)
    (case l_is_expression => k_is)
    (case c_is_expression => k_is)
    (case k_is_expression => k_is)
    (case a_value_of => k_is)
    (case l_value_of => k_is)
    (case c_value_of => k_is)
    (case k_value_of => k_is)
    (case a_length_of => k_is)
    (case l_length_of => k_is)
    (case c_length_of => k_is)
    (case k_length_of => k_is)
    (case a_unrolled => k_is)
    (case l_unrolled => k_is)
    (case c_unrolled => k_is)
    (case k_unrolled => k_is)
    (case a_Monoid_put => k_is)
    (case i_Monoid_put => k_is)
    (case l_Monoid_put => k_is)
    (case c_Monoid_put => k_is)
    (case k_Monoid_put => k_is)
    (case a_Monoid_go_on => k_is)
    (case i_Monoid_go_on => k_is)
    (case l_Monoid_go_on => k_is)
    (case c_Monoid_go_on => k_is)
    (case k_Monoid_go_on => k_is)
    (case a_Monoid_init => k_is)
    (case i_Monoid_init => k_is)
    (case l_Monoid_init => k_is)
    (case c_Monoid_init => k_is)
    (case k_Monoid_init => k_is)
    (case a_Monoid_is_too_large => k_is)
    (case i_Monoid_is_too_large => k_is)
    (case l_Monoid_is_too_large => k_is)
    (case c_Monoid_is_too_large => k_is)
    (case k_Monoid_is_too_large => k_is)
    (case a_Monoid_acceptances => k_is)
    (case i_Monoid_acceptances => k_is)
    (case l_Monoid_acceptances => k_is)
    (case c_Monoid_acceptances => k_is)
    (case k_Monoid_acceptances => k_is)
    (case a_Monoid_postfix => k_is)
    (case i_Monoid_postfix => k_is)
    (case l_Monoid_postfix => k_is)
    (case c_Monoid_postfix => k_is)
    (case k_Monoid_postfix => k_is)
    (case a_Search_init => k_is)
    (case i_Search_init => k_is)
    (case l_Search_init => k_is)
    (case c_Search_init => k_is)
    (case k_Search_init => k_is)
    (case a_Search_word_to => k_is)
    (case i_Search_word_to => k_is)
    (case l_Search_word_to => k_is)
    (case c_Search_word_to => k_is)
    (case k_Search_word_to => k_is)
    (case a_first_above => k_is)
    (case l_first_above => k_is)
    (case c_first_above => k_is)
    (case k_first_above => k_is)
    (case a_greatest_cost => k_is)
    (case l_greatest_cost => k_is)
    (case c_greatest_cost => k_is)
    (case k_greatest_cost => k_is)
    (case a_Module_init => k_is)
    (case i_Module_init => k_is)
    (case l_Module_init => k_is)
    (case c_Module_init => k_is)
    (case k_Module_init => k_is)
    (case a_Module_create => k_is)
    (case i_Module_create => k_is)
    (case l_Module_create => k_is)
    (case c_Module_create => k_is)
    (case k_Module_create => k_is)
    (case a_Module_set_transition => k_is)
    (case i_Module_set_transition => k_is)
    (case l_Module_set_transition => k_is)
    (case c_Module_set_transition => k_is)
    (case k_Module_set_transition => k_is)
    (case a_Module_remove_transition => k_is)
    (case i_Module_remove_transition => k_is)
    (case l_Module_remove_transition => k_is)
    (case c_Module_remove_transition => k_is)
    (case k_Module_remove_transition => k_is)
    (case a_Module_set_mask => k_is)
    (case i_Module_set_mask => k_is)
    (case l_Module_set_mask => k_is)
    (case c_Module_set_mask => k_is)
    (case k_Module_set_mask => k_is)
    (case a_Module_about_word => k_is)
    (case i_Module_about_word => k_is)
    (case l_Module_about_word => k_is)
    (case c_Module_about_word => k_is)
    (case k_Module_about_word => k_is)
    (case a_Module_evaluate => k_is)
    (case i_Module_evaluate => k_is)
    (case l_Module_evaluate => k_is)
    (case c_Module_evaluate => k_is)
    (case k_Module_evaluate => k_is)
    (case a_Module_unroll => k_is)
    (case i_Module_unroll => k_is)
    (case l_Module_unroll => k_is)
    (case c_Module_unroll => k_is)
    (case k_Module_unroll => k_is)
    (case a_Module_least_bound => k_is)
    (case i_Module_least_bound => k_is)
    (case l_Module_least_bound => k_is)
    (case c_Module_least_bound => k_is)
    (case k_Module_least_bound => k_is)
    (case a_Module_witness => k_is)
    (case i_Module_witness => k_is)
    (case l_Module_witness => k_is)
    (case c_Module_witness => k_is)
    (case k_Module_witness => k_is)
    (case a_Module_about_monoid => k_is)
    (case i_Module_about_monoid => k_is)
    (case l_Module_about_monoid => k_is)
    (case c_Module_about_monoid => k_is)
    (case k_Module_about_monoid => k_is)
    (case a_Module_word_above => k_is)
    (case i_Module_word_above => k_is)
    (case l_Module_word_above => k_is)
    (case c_Module_word_above => k_is)
    (case k_Module_word_above => k_is)
    (case a_Module_status => k_is)
    (case i_Module_status => k_is)
    (case l_Module_status => k_is)
    (case c_Module_status => k_is)
    (case k_Module_status => k_is)
    (case a_done => k_is)
    (case l_done => k_is)
    (case c_done => k_is)
    (case k_done => k_is)
    (case a_answers => k_is)
    (case l_answers => k_is)
    (case c_answers => k_is)
    (case k_answers => k_is)
    (case v_nums => exact ⟨_, _, rfl, rfl, by decide, by repeat (first | exact .nil | refine .cons ⟨_, rfl⟩ ?_)⟩)
    (case v_wrow => exact ⟨_, _, rfl, rfl, by decide, by repeat (first | exact .nil | refine .cons ⟨_, rfl⟩ ?_)⟩)
  case S =>
    intro K H xs a hO hwi hask hx
    cases hx with
    | cons h1 h2 =>
      cases h2
      cases h1 with
      | lst hs ha =>
        have e := L2.ints_dw a.1 _ ha
        subst e
        have q : ((Codec.inLen 0 1400 a.1 && a.1.all (Codec.inInt 0 2147483647)) && true) = true := hwi
        rw [Bool.and_eq_true, Bool.and_eq_true] at q
        have ask : PyKh420.answers_asked a.1 = true := hask
        exact ⟨_, rfl, _, a.1, rfl, hs, (Codec.inNat_iff.mp q.1.1).2, ask, fun H' p hp => .lst (L2.SqL.of hp) (L2.dw_ints _)⟩
#print axioms PySem.Challenge.cw_costwords_s01_answers_holds
