/-
  Part 6 of the proofs that laws of this seat answer true: contracts and plain laws, whatever the arguments.
-/
import Derived.Test.YtaoeopeempmnnaaDoorKZB1
import Derived.Test.YtaoeopeempmnnaaDoorKZB2
import Derived.Test.YtaoeopeempmnnaaDoorKZB3
import Derived.Test.YtaoeopeempmnnaaDoorKZB4
import Derived.Test.YtaoeopeempmnnaaDoorKZB5
import Derived.Shelf.SlSortCmp.NoneTotal
import Derived.Shelf.SlicesG.Cmp
import Derived.Ground.SlsfProg
import Derived.Ground.SlgcProg
import Derived.Test.YtaoeopeempmnnaaDoorProg
import Derived.StillTailTactics
import Derived.WalkKit
import Derived.BigQuiet
import Derived.Deep.DeepCutAuto
import Derived.Deep.DeepMust
import Derived.RegionTactic
import Derived.BigRegion
/-
  PLAIN: sums over the first n numbers; the sorted events of a schedule: the event walk accepts exactly if at each beginning the needs are over,
  the tasks that run are no more than the workers, and their units fit. No program in sight.
-/
namespace Go.Proofs.YtaoeopeempmnnaaDoor.M
set_option linter.unusedSimpArgs false
set_option linter.unusedVariables false

/-! ### sums over the first n numbers -/
def sm : Nat → (Nat → Int) → Int
  | 0, _ => 0
  | n + 1, f => sm n f + f n

theorem sm_congr {n : Nat} {f g : Nat → Int} (h : ∀ j, j < n → f j = g j) : sm n f = sm n g := by
  induction n with
  | zero => rfl
  | succ n ih => simp only [sm]; rw [ih (fun j hj => h j (by omega)), h n (by omega)]
theorem sm_le {n : Nat} {f g : Nat → Int} (h : ∀ j, j < n → f j ≤ g j) : sm n f ≤ sm n g := by
  induction n with
  | zero => exact Int.le_refl _
  | succ n ih => simp only [sm]; have := ih (fun j hj => h j (by omega)); have := h n (by omega); omega
theorem sm_add (n : Nat) (f g : Nat → Int) : sm n (fun j => f j + g j) = sm n f + sm n g := by
  induction n with
  | zero => rfl
  | succ n ih => simp only [sm]; rw [ih]; omega
theorem sm_zero {n : Nat} {f : Nat → Int} (h : ∀ j, j < n → f j = 0) : sm n f = 0 := by
  induction n with
  | zero => rfl
  | succ n ih => simp only [sm]; rw [ih (fun j hj => h j (by omega)), h n (by omega)]; rfl
theorem sm_single (n i : Nat) (c : Int) (hi : i < n) : sm n (fun j => if j = i then c else 0) = c := by
  induction n with
  | zero => omega
  | succ n ih =>
    simp only [sm]
    by_cases h : i = n
    · subst h
      rw [sm_zero (fun j hj => if_neg (by omega)), if_pos rfl]; omega
    rw [ih (by omega), if_neg (fun e => h e.symm)]; omega

/-! ### events -/
structure Ev where
  tm : Int
  task : Int
  over : Bool
instance : Inhabited Ev := ⟨⟨0, 0, false⟩⟩

def cf (a b : Ev) : Int :=
  if a.tm = b.tm ∧ a.over ≠ b.over then (if a.over = true then -1 else 1)
  else if a.tm < b.tm then -1 else if b.tm < a.tm then 1 else if a.task < b.task then -1 else if b.task < a.task then 1 else 0
def lt (a b : Ev) : Bool := decide (cf a b < 0)

theorem lt_iff (a b : Ev) : lt a b = true ↔ a.tm < b.tm ∨ (a.tm = b.tm ∧ a.over = true ∧ b.over = false) ∨ (a.tm = b.tm ∧ a.over = b.over ∧ a.task < b.task) := by
  unfold lt cf
  rcases a with ⟨ta, ka, oa⟩
  rcases b with ⟨tb, kb, ob⟩
  cases oa <;> cases ob <;> simp <;> (repeat' split) <;> omega
theorem lt_irrefl (a : Ev) : lt a a = false := by
  cases h : lt a a with
  | false => rfl
  | true =>
    rcases (lt_iff a a).1 h with h | ⟨_, h1, h2⟩ | h
    · omega
    · rw [h1] at h2; cases h2
    omega
theorem lt_trans {a b c : Ev} (h : lt a b = true) (k : lt b c = true) : lt a c = true := by
  rw [lt_iff] at *
  rcases a with ⟨ta, ka, oa⟩
  rcases b with ⟨tb, kb, ob⟩
  rcases c with ⟨tc, kc, oc⟩
  simp only at *
  cases oa <;> cases ob <;> cases oc <;> simp at * <;> omega
theorem nlt_trans {a b c : Ev} (h : lt a b = false) (k : lt b c = false) : lt a c = false := by
  cases hh : lt a c with
  | false => rfl
  | true =>
    have h' : ¬ lt a b = true := by rw [h]; simp
    have k' : ¬ lt b c = true := by rw [k]; simp
    rw [lt_iff] at *
    rcases a with ⟨ta, ka, oa⟩
    rcases b with ⟨tb, kb, ob⟩
    rcases c with ⟨tc, kc, oc⟩
    simp only at *
    cases oa <;> cases ob <;> cases oc <;> simp at * <;> omega
theorem lt_total {a b : Ev} (h : lt a b = false) (k : lt b a = false) : a = b := by
  have h' : ¬ lt a b = true := by rw [h]; simp
  have k' : ¬ lt b a = true := by rw [k]; simp
  rw [lt_iff] at *
  rcases a with ⟨ta, ka, oa⟩
  rcases b with ⟨tb, kb, ob⟩
  simp only at *
  cases oa <;> cases ob <;> simp at * <;> omega
theorem lt_asymm {a b : Ev} (h : lt a b = true) : lt b a = false := by
  cases k : lt b a with
  | false => rfl
  | true => have := lt_trans h k; rw [lt_irrefl] at this; cases this

def evs (s T : Nat → Int) : Nat → List Ev
  | 0 => []
  | n + 1 => evs s T n ++ [⟨s n, n, false⟩, ⟨s n + T n, n, true⟩]

theorem evs_length (s T : Nat → Int) (n : Nat) : (evs s T n).length = 2 * n := by
  induction n with
  | zero => rfl
  | succ n ih => simp only [evs, List.length_append, ih, List.length_cons, List.length_nil]; omega
theorem mem_evs {s T : Nat → Int} {n : Nat} {e : Ev} : e ∈ evs s T n ↔ ∃ i : Nat, i < n ∧ (e = ⟨s i, i, false⟩ ∨ e = ⟨s i + T i, i, true⟩) := by
  induction n with
  | zero => simp [evs]
  | succ n ih =>
    simp only [evs, List.mem_append, ih, List.mem_cons, List.not_mem_nil, or_false]
    constructor
    · rintro (⟨i, hi, h⟩ | h | h)
      · exact ⟨i, by omega, h⟩
      · exact ⟨n, by omega, .inl h⟩
      exact ⟨n, by omega, .inr h⟩
    rintro ⟨i, hi, h⟩
    by_cases hn : i = n
    · subst hn; exact .inr h
    exact .inl ⟨i, by omega, h⟩
theorem evs_nodup (s T : Nat → Int) (n : Nat) : (evs s T n).Nodup := by
  induction n with
  | zero => exact List.nodup_nil
  | succ n ih =>
    simp only [evs]
    rw [List.nodup_append]
    refine ⟨ih, by simp, ?_⟩
    intro a ha b hb e
    subst e
    obtain ⟨i, hi, h⟩ := mem_evs.1 ha
    rcases h with rfl | rfl <;> simp at hb <;> omega

def sorted (X : List Ev) : List Ev := X.mergeSort fun x y => !lt y x
theorem sorted_perm (X : List Ev) : (sorted X).Perm X := List.mergeSort_perm _ _
theorem sorted_pairwise (X : List Ev) : (sorted X).Pairwise fun x y => lt y x = false := by
  have h := List.pairwise_mergeSort (le := fun x y : Ev => !lt y x) (fun a b c h k => by
    simp only [Bool.not_eq_true'] at *
    exact nlt_trans k h) (fun a b => by
    cases h : lt b a with
    | false => simp
    | true => simp [lt_asymm h]) X
  exact h.imp (fun h => by simpa using h)

/-! ### sums over lists of events -/
def sumL : List Ev → (Ev → Int) → Int
  | [], _ => 0
  | a :: l, f => f a + sumL l f
theorem sumL_append (l m : List Ev) (f : Ev → Int) : sumL (l ++ m) f = sumL l f + sumL m f := by
  induction l with
  | nil => simp [sumL]
  | cons a l ih => simp only [List.cons_append, sumL, ih]; omega
theorem sumL_perm {l m : List Ev} (h : l.Perm m) (f : Ev → Int) : sumL l f = sumL m f := by
  induction h with
  | nil => rfl
  | cons a _ ih => simp only [sumL, ih]
  | swap a b l => simp only [sumL]; omega
  | trans _ _ h1 h2 => exact h1.trans h2
theorem sumL_filter_evs (s T : Nat → Int) (p : Ev → Bool) (f : Ev → Int) (n : Nat) : sumL ((evs s T n).filter p) f =
    sm n (fun j => (if p ⟨s j, j, false⟩ = true then f ⟨s j, j, false⟩ else 0) + (if p ⟨s j + T j, j, true⟩ = true then f ⟨s j + T j, j, true⟩ else 0)) := by
  induction n with
  | zero => rfl
  | succ n ih =>
    simp only [evs, List.filter_append, sumL_append, ih, sm]
    congr 1
    cases h1 : p ⟨s n, n, false⟩ <;> cases h2 : p ⟨s n + T n, n, true⟩ <;> simp [List.filter_cons, h1, h2, sumL]

def sgn (e : Ev) : Int := if e.over = true then -1 else 1

/-- In the sorted list what stands before an event is what is less. -/
theorem before_eq {X A B : List Ev} {e : Ev} (hX : X.Nodup) (h : sorted X = A ++ e :: B) : A = (sorted X).filter (fun x => lt x e) := by
  have hp := sorted_pairwise X
  have hn : (sorted X).Nodup := (sorted_perm X).nodup_iff.2 hX
  rw [h] at hp hn
  rw [h, List.filter_append, List.filter_cons, lt_irrefl]
  rw [List.pairwise_append] at hp
  rw [List.nodup_append] at hn
  have hA : A.filter (fun x => lt x e) = A := by
    rw [List.filter_eq_self]
    intro x hx
    cases hl : lt x e with
    | true => rfl
    | false =>
      have h1 := hp.2.2 x hx e (by simp)
      exact absurd (lt_total hl h1) (hn.2.2 x hx e (by simp))
  have hB : B.filter (fun x => lt x e) = [] := by
    rw [List.filter_eq_nil_iff]
    intro x hx
    have h1 := (List.pairwise_cons.1 hp.2.1).1 x hx
    rw [h1]
    simp
  rw [hA, hB]
  simp

/-! ### the event walk and the intervals -/
section
variable (n : Nat) (s T U P : Nat → Int) (need : Nat → Nat → Prop) (room : Int → Int) (workers : Int)

/-- The beginning of e is let in behind the events A. -/
def okE (A : List Ev) (e : Ev) : Prop :=
  e.over = true ∨ ((∀ k : Nat, k < n → need e.task.toNat k → ∃ x ∈ A, x.over = true ∧ x.task = k) ∧ sumL A sgn < workers ∧
    sumL A (fun x => if P x.task.toNat = P e.task.toNat then sgn x * U x.task.toNat else 0) + U e.task.toNat ≤ room (P e.task.toNat))

/-- Task j has begun before task i does, in the order of the walk, and is not over then. -/
def runs (i j : Nat) : Prop := (s j < s i ∨ s j = s i ∧ j < i) ∧ s i < s j + T j
instance (i j : Nat) : Decidable (runs s T i j) := by unfold runs; exact inferInstance

def fine (i : Nat) : Prop :=
  (∀ k, k < n → need i k → s k + T k ≤ s i) ∧ sm n (fun j => if runs s T i j then 1 else 0) < workers ∧
    sm n (fun j => if runs s T i j ∧ P j = P i then U j else 0) + U i ≤ room (P i)

variable (hT : ∀ j, j < n → 1 ≤ T j)
include hT

theorem sum_at (g : Nat → Int) (i : Nat) : sumL ((evs s T n).filter (fun x => lt x ⟨s i, i, false⟩)) (fun x => sgn x * g x.task.toNat) = sm n (fun j => if runs s T i j then g j else 0) := by
  rw [sumL_filter_evs]
  refine sm_congr (fun j hj => ?_)
  have h1 := lt_iff ⟨s j, j, false⟩ ⟨s i, i, false⟩
  have h2 := lt_iff ⟨s j + T j, j, true⟩ ⟨s i, i, false⟩
  simp only [Bool.false_eq_true, false_and, true_and, and_true, or_false, and_false, false_or, reduceCtorEq] at h1 h2
  have h1' : lt ⟨s j, j, false⟩ ⟨s i, i, false⟩ = true ↔ (s j < s i ∨ s j = s i ∧ j < i) := by rw [h1]; omega
  have h2' : lt ⟨s j + T j, j, true⟩ ⟨s i, i, false⟩ = true ↔ s j + T j ≤ s i := by rw [h2]; omega
  have ht := hT j hj
  simp only [sgn, Bool.false_eq_true, if_false, if_true, Int.toNat_natCast]
  by_cases c1 : s j < s i ∨ s j = s i ∧ j < i
  · rw [if_pos (h1'.2 c1)]
    by_cases c2 : s j + T j ≤ s i
    · rw [if_pos (h2'.2 c2), if_neg (by unfold runs; omega)]; omega
    rw [if_neg (fun h => c2 (h2'.1 h)), if_pos (by unfold runs; omega)]; omega
  rw [if_neg (fun h => c1 (h1'.1 h)), if_neg (fun h => by have := h2'.1 h; omega), if_neg (by unfold runs; omega)]; omega

theorem okE_begin (i : Nat) (_hi : i < n) {A B : List Ev} (h : sorted (evs s T n) = A ++ ⟨s i, i, false⟩ :: B) : okE n U P need room workers A ⟨s i, i, false⟩ ↔ fine n s T U P need room workers i := by
  have hA := before_eq (evs_nodup s T n) h
  have hperm : A.Perm ((evs s T n).filter (fun x => lt x ⟨s i, i, false⟩)) := by rw [hA]; exact (sorted_perm _).filter _
  have hs : sumL A sgn = sm n (fun j => if runs s T i j then 1 else 0) := by
    rw [sumL_perm hperm]
    have := sum_at n s T hT (fun _ => 1) i
    simp only [Int.mul_one] at this
    exact this
  have hu : sumL A (fun x => if P x.task.toNat = P i then sgn x * U x.task.toNat else 0) = sm n (fun j => if runs s T i j ∧ P j = P i then U j else 0) := by
    rw [sumL_perm hperm]
    have := sum_at n s T hT (fun j => if P j = P i then U j else 0) i
    have e1 : (fun x : Ev => sgn x * (fun j => if P j = P i then U j else 0) x.task.toNat) = (fun x : Ev => if P x.task.toNat = P i then sgn x * U x.task.toNat else 0) := by
      funext x
      by_cases c : P x.task.toNat = P i <;> simp [c]
    rw [e1] at this
    rw [this]
    refine sm_congr (fun j _ => ?_)
    by_cases c1 : runs s T i j <;> by_cases c2 : P j = P i <;> simp [c1, c2]
  have hd : ∀ k, k < n → ((∃ x ∈ A, x.over = true ∧ x.task = (k : Int)) ↔ s k + T k ≤ s i) := by
    intro k hk
    constructor
    · rintro ⟨x, hx, ho, ht⟩
      have hx' := hperm.mem_iff.1 hx
      rw [List.mem_filter] at hx'
      obtain ⟨j, hj, hj'⟩ := mem_evs.1 hx'.1
      rcases hj' with rfl | rfl
      · simp at ho
      simp only at ht
      have : j = k := by omega
      subst this
      have := (lt_iff _ _).1 hx'.2
      simp at this
      omega
    intro hle
    refine ⟨⟨s k + T k, k, true⟩, hperm.mem_iff.2 (List.mem_filter.2 ⟨mem_evs.2 ⟨k, hk, .inr rfl⟩, (lt_iff _ _).2 ?_⟩), rfl, rfl⟩
    simp
    omega
  unfold okE fine
  simp only [Bool.false_eq_true, false_or, Int.toNat_natCast]
  rw [hs, hu]
  constructor
  · rintro ⟨h1, h2, h3⟩
    exact ⟨fun k hk hn => (hd k hk).1 (h1 k hk hn), h2, h3⟩
  rintro ⟨h1, h2, h3⟩
  exact ⟨fun k hk hn => (hd k hk).2 (h1 k hk hn), h2, h3⟩

/-- THE WALK ACCEPTS EXACTLY IF EACH BEGINNING IS FINE. -/
theorem walk_fine : (∀ A e B, sorted (evs s T n) = A ++ e :: B → okE n U P need room workers A e) ↔ ∀ i, i < n → fine n s T U P need room workers i := by
  constructor
  · intro h i hi
    have hm : (⟨s i, i, false⟩ : Ev) ∈ sorted (evs s T n) := (sorted_perm _).mem_iff.2 (mem_evs.2 ⟨i, hi, .inl rfl⟩)
    obtain ⟨A, B, hAB⟩ := List.append_of_mem hm
    exact (okE_begin n s T U P need room workers hT i hi hAB).1 (h A _ B hAB)
  intro h A e B hAB
  have hm : e ∈ sorted (evs s T n) := by rw [hAB]; simp
  obtain ⟨i, hi, he⟩ := mem_evs.1 ((sorted_perm _).mem_iff.1 hm)
  rcases he with rfl | rfl
  · exact (okE_begin n s T U P need room workers hT i hi hAB).2 (h i hi)
  exact .inl rfl

/-- Task j runs at a time. -/
def at_ (now : Int) (j : Nat) : Prop := s j ≤ now ∧ now < s j + T j
omit hT in
theorem exists_last (p : Nat → Prop) (h : ∃ i, i < n ∧ p i) : ∃ i, i < n ∧ p i ∧ ∀ j, j < n → p j → s j < s i ∨ s j = s i ∧ j ≤ i := by
  classical
  induction n with
  | zero => obtain ⟨i, hi, _⟩ := h; omega
  | succ n ih =>
    by_cases hq : ∃ i, i < n ∧ p i
    · obtain ⟨i, hi, hp, hmax⟩ := ih hq
      by_cases hpn : p n
      · by_cases hle : s i ≤ s n
        · refine ⟨n, by omega, hpn, fun j hj hpj => ?_⟩
          by_cases hjn : j = n
          · subst hjn; exact .inr ⟨rfl, Nat.le_refl _⟩
          have := hmax j (by omega) hpj; omega
        refine ⟨i, by omega, hp, fun j hj hpj => ?_⟩
        by_cases hjn : j = n
        · subst hjn; omega
        exact hmax j (by omega) hpj
      refine ⟨i, by omega, hp, fun j hj hpj => ?_⟩
      by_cases hjn : j = n
      · subst hjn; exact absurd hpj hpn
      exact hmax j (by omega) hpj
    obtain ⟨i, hi, hp⟩ := h
    have hin : i = n := by
      by_cases e : i = n
      · exact e
      exact absurd ⟨i, by omega, hp⟩ hq
    subst hin
    refine ⟨i, hi, hp, fun j hj hpj => ?_⟩
    by_cases hji : j = i
    · subst hji; exact .inr ⟨rfl, Nat.le_refl _⟩
    exact absurd ⟨j, by omega, hpj⟩ hq

open Classical in
/-- What the reference asks at the beginning of task i. -/
def good (i : Nat) : Prop :=
  (∀ k, k < n → need i k → s k + T k ≤ s i) ∧ sm n (fun j => if at_ s T (s i) j then 1 else 0) ≤ workers ∧
    ∀ p : Int, 0 ≤ p → p < 3 → sm n (fun j => if at_ s T (s i) j ∧ P j = p then U j else 0) ≤ room p

open Classical in
theorem fine_good (hU : ∀ j, j < n → 0 ≤ U j) (hP : ∀ j, j < n → 0 ≤ P j ∧ P j < 3) (hr : ∀ p, 0 ≤ p → p < 3 → 0 ≤ room p) : (∀ i, i < n → fine n s T U P need room workers i) ↔ ∀ i, i < n → good n s T U P need room workers i := by
  constructor
  · intro h i hi
    refine ⟨(h i hi).1, ?_, ?_⟩
    · obtain ⟨m, hm, hpm, hmax⟩ := exists_last n s (fun j => at_ s T (s i) j) ⟨i, hi, by unfold at_; have := hT i hi; omega⟩
      have h2 := (h m hm).2.1
      have : sm n (fun j => if at_ s T (s i) j then 1 else 0) ≤ sm n (fun j => (if runs s T m j then 1 else 0) + (if j = m then 1 else 0)) := by
        refine sm_le (fun j hj => ?_)
        by_cases c : at_ s T (s i) j
        · rw [if_pos c]
          by_cases e : j = m
          · rw [if_pos e]; split <;> omega
          rw [if_pos (show runs s T m j by have := hmax j hj c; unfold runs; unfold at_ at *; omega)]; split <;> omega
        rw [if_neg c]; split <;> split <;> omega
      rw [sm_add, sm_single n m 1 hm] at this
      omega
    intro p hp0 hp3
    by_cases hex : ∃ j, j < n ∧ (at_ s T (s i) j ∧ P j = p)
    · obtain ⟨m, hm, ⟨hpm, hpp⟩, hmax⟩ := exists_last n s (fun j => at_ s T (s i) j ∧ P j = p) hex
      have h3 := (h m hm).2.2
      have : sm n (fun j => if at_ s T (s i) j ∧ P j = p then U j else 0) ≤ sm n (fun j => (if runs s T m j ∧ P j = P m then U j else 0) + (if j = m then U m else 0)) := by
        refine sm_le (fun j hj => ?_)
        have hu := hU j hj
        have hum := hU m hm
        by_cases c : at_ s T (s i) j ∧ P j = p
        · rw [if_pos c]
          by_cases e : j = m
          · subst e; rw [if_pos rfl]; split <;> omega
          rw [if_pos (show runs s T m j ∧ P j = P m by have := hmax j hj c; unfold runs; unfold at_ at *; omega)]; split <;> omega
        rw [if_neg c]; split <;> split <;> omega
      rw [sm_add, sm_single n m (U m) hm, hpp] at this
      rw [hpp] at h3
      omega
    rw [sm_zero (fun j hj => if_neg (fun c => hex ⟨j, hj, c⟩))]
    exact hr p hp0 hp3
  intro h i hi
  obtain ⟨h1, h2, h3⟩ := h i hi
  have hti := hT i hi
  refine ⟨h1, ?_, ?_⟩
  · have : sm n (fun j => (if runs s T i j then 1 else 0) + (if j = i then 1 else 0)) ≤ sm n (fun j => if at_ s T (s i) j then 1 else 0) := by
      refine sm_le (fun j hj => ?_)
      by_cases c : runs s T i j
      · rw [if_pos c, if_neg (fun e => by subst e; unfold runs at c; omega), if_pos (by unfold runs at c; unfold at_; omega)]; omega
      rw [if_neg c]
      by_cases e : j = i
      · subst e; rw [if_pos rfl, if_pos (by unfold at_; omega)]; omega
      rw [if_neg e]; split <;> omega
    rw [sm_add, sm_single n i 1 hi] at this
    omega
  have hpi := hP i hi
  have : sm n (fun j => (if runs s T i j ∧ P j = P i then U j else 0) + (if j = i then U i else 0)) ≤ sm n (fun j => if at_ s T (s i) j ∧ P j = P i then U j else 0) := by
    refine sm_le (fun j hj => ?_)
    have hu := hU j hj
    by_cases c : runs s T i j ∧ P j = P i
    · rw [if_pos c, if_neg (fun e => by subst e; unfold runs at c; omega), if_pos (by unfold runs at c; unfold at_; omega)]; omega
    rw [if_neg c]
    by_cases e : j = i
    · subst e; rw [if_pos rfl, if_pos (by unfold at_; omega)]; omega
    rw [if_neg e]; split <;> omega
  rw [sm_add, sm_single n i (U i) hi] at this
  have := h3 (P i) hpi.1 hpi.2
  omega
end
end Go.Proofs.YtaoeopeempmnnaaDoor.M

/-
  PLAIN: the specification's printed functions, third part: valid graphs, rooms, running tasks.
-/
namespace Go.Proofs.YtaoeopeempmnnaaDoor
open Go Go.RowKit Go.Proofs.YtaoeopeempmnnaaDoorW.PrintWords Go.Proofs.YtaoeopeempmnnaaDoorW.PrintLast Go.Proofs.YtaoeopeempmnnaaDoorW.PrintMore Go.Proofs.YtaoeopeempmnnaaDoor.PA
set_option linter.unusedSimpArgs false
set_option linter.unusedVariables false

theorem sub_le : ∀ (l m : List Nat), l.Nodup → (∀ x ∈ l, x ∈ m) → l.length ≤ m.length
  | [], m, _, _ => by simp
  | a :: l, m, hn, h => by
    have hn' := List.nodup_cons.1 hn
    have h1 := sub_le l (m.erase a) hn'.2 (fun x hx => (List.mem_erase_of_ne (show x ≠ a from fun e => hn'.1 (e ▸ hx))).2 (h x (by simp [hx])))
    have h2 := List.length_erase_of_mem (h a (by simp))
    have h3 : 0 < m.length := List.length_pos_of_mem (h a (by simp))
    simp only [List.length_cons]
    omega

theorem full_iff {n d : Nat} {lst : List Nat} (hn : lst.Nodup) (hlt : ∀ i ∈ lst, i < n) (hd : ∀ i, d.testBit i = true ↔ i ∈ lst) : lst.length = n ↔ d = 2 ^ n - 1 := by
  constructor
  · intro h
    apply Nat.eq_of_testBit_eq
    intro i
    rw [Nat.testBit_two_pow_sub_one, Bool.eq_iff_iff, hd, decide_eq_true_iff]
    constructor
    · exact hlt i
    intro hi
    apply Classical.byContradiction
    intro hm
    have := nodup_le n (i :: lst) (List.nodup_cons.2 ⟨hm, hn⟩) (fun x hx => by
      rcases List.mem_cons.1 hx with rfl | hx
      · exact hi
      exact hlt x hx)
    simp at this
    omega
  intro h
  have h1 := nodup_le n lst hn hlt
  have h2 := sub_le (List.range n) lst List.nodup_range (fun x hx => by
    rw [List.mem_range] at hx
    rw [← hd, h, Nat.testBit_two_pow_sub_one]
    simpa using hx)
  simp at h2
  omega

theorem validGraph_gives (g : List Tk) (hg : g.length < 4611686018427387904) (hb : ∀ t ∈ g, t.f1.length < 4611686018427387904) : Gives (fun k => spec_validGraph.f k g) (gOf g).isSome := by
  refine Gives.bind (F := fun k => spec_tasksFine.f k g) (G := fun k v => if v = true then ((spec_topOrder.f k g).bind fun t149 => some ((t149.length : Int) == (g.length : Int))) else some false) (tasksFine_gives g hg hb) ?_
  unfold gOf
  cases hN : needsM g with
  | none => exact Gives.const _
  | some ms =>
    simp only [Option.isSome_some, if_true]
    refine Gives.bind (G := fun k (v : List Int) => some ((v.length : Int) == (g.length : Int))) (topOrder_gives g ms hN hb) ?_
    obtain ⟨h8, hms, _⟩ := needsM_spec hN
    obtain ⟨ho, hnd, hbits⟩ := orderM_spec ms
    rw [hms] at ho
    have hfull := full_iff hnd ho hbits
    rw [ints_length]
    by_cases c : (orderM ms).2 = 2 ^ g.length - 1
    · rw [if_pos c, show (((orderM ms).1.length : Int) == (g.length : Int)) = true by rw [hfull.2 c]; simp]
      exact Gives.const _
    rw [if_neg c, show (((orderM ms).1.length : Int) == (g.length : Int)) = false by
      rw [beq_eq_false_iff_ne]
      intro e
      exact c (hfull.1 (by omega))]
    exact Gives.const _

theorem validRoom_gives (room : List Int) (hl : room.length < 4611686018427387904) : Gives (fun k => spec_validRoom.f k room) (roomB room) := by
  unfold roomB
  by_cases h3 : room.length = 3
  · refine Gives.of_eq (G := fun k => (spec_allIn.f k room 4 8).bind fun v => some v) (fun k => by unfold spec_validRoom.f; rw [if_pos (by omega)]) ?_
    rw [show decide (room.length = 3) = true by simp [h3], Bool.true_and]
    exact Gives.bind (G := fun k v => some v) (allIn_gives room 4 8 hl) (Gives.const _)
  refine Gives.of_eq (G := fun k => some false) (fun k => by unfold spec_validRoom.f; rw [if_neg (by omega)]) ?_
  rw [show decide (room.length = 3) = false by simp [h3], Bool.false_and]
  exact Gives.const _

/-- Those that run at a time. -/
def runL (g : List Tk) (start : List Int) (now : Int) (r i : Nat) : List Nat := (List.range' i r).filter fun j => decide (rd start (j : Int) ≤ now ∧ now < rd start (j : Int) + (rd_T33 g (j : Int)).f0)
theorem runningAt_l (g : List Tk) (start : List Int) (now : Int) (h8 : g.length ≤ 8) (hs : start.length = g.length) (hW : ∀ i, i < g.length → wrap64 (rd start (i : Int) + (rd_T33 g (i : Int)).f0) = rd start (i : Int) + (rd_T33 g (i : Int)).f0) :
    ∀ r i (out : List Nat), i + r = g.length → out.length ≤ i → Gives (fun k => spec_runningAt.l0 k g start now (ints out) (i : Int)) (ints (out ++ runL g start now r i))
  | 0, i, out, h, ho => by
    refine Gives.of_succ (G := fun _ => some (ints out)) (fun k => by rw [spec_runningAt.l0, if_neg (by omega)]) ?_
    simp only [runL, List.range'_zero, List.filter_nil, List.append_nil]
    exact Gives.const _
  | r + 1, i, out, h, ho => by
    refine Gives.of_succ (G := fun k => if rd start (i : Int) ≤ now then (if now < rd start (i : Int) + (rd_T33 g (i : Int)).f0 then spec_runningAt.l0 k g start now (ints (out ++ [i])) ((i + 1 : Nat) : Int) else spec_runningAt.l0 k g start now (ints out) ((i + 1 : Nat) : Int)) else spec_runningAt.l0 k g start now (ints out) ((i + 1 : Nat) : Int)) (fun k => by
      rw [spec_runningAt.l0, if_pos (by omega), if_pos (by omega), if_pos (by omega), hW i (by omega), wrap_succ i (by omega), if_pos (show (ints out).length < 17592186044416 by rw [ints_length]; omega), ints_snoc]) ?_
    unfold runL
    rw [List.range'_succ, List.filter_cons]
    by_cases c1 : rd start (i : Int) ≤ now
    · by_cases c2 : now < rd start (i : Int) + (rd_T33 g (i : Int)).f0
      · simp only [if_pos c1, if_pos c2]
        rw [if_pos (by simp [c1, c2])]
        have := runningAt_l g start now h8 hs hW r (i + 1) (out ++ [i]) (by omega) (by simp; omega)
        rw [List.append_assoc] at this
        exact this
      simp only [if_pos c1, if_neg c2]
      rw [if_neg (by simp [c2])]
      exact runningAt_l g start now h8 hs hW r (i + 1) out (by omega) (by omega)
    simp only [if_neg c1]
    rw [if_neg (by simp [c1])]
    exact runningAt_l g start now h8 hs hW r (i + 1) out (by omega) (by omega)
theorem runningAt_gives (g : List Tk) (start : List Int) (now : Int) (h8 : g.length ≤ 8) (hs : start.length = g.length) (hW : ∀ i, i < g.length → wrap64 (rd start (i : Int) + (rd_T33 g (i : Int)).f0) = rd start (i : Int) + (rd_T33 g (i : Int)).f0) :
    Gives (fun k => spec_runningAt.f k g start now) (ints (runL g start now g.length 0)) := runningAt_l g start now h8 hs hW g.length 0 [] (by omega) (by simp)

/-- The units that tasks take of a pool. -/
def usedL (g : List Tk) (p : Int) : List Nat → Int
  | [] => 0
  | i :: l => (if (rd_T33 g (i : Int)).f2 = p then (rd_T33 g (i : Int)).f3 else 0) + usedL g p l
theorem used_l (g : List Tk) (p : Int) (lst : List Nat) (hl : lst.length ≤ 8) (hlt : ∀ i ∈ lst, i < g.length) (hu : ∀ i, i < g.length → 1 ≤ (rd_T33 g (i : Int)).f3 ∧ (rd_T33 g (i : Int)).f3 ≤ 4) :
    ∀ r i (acc : Int), i + r = lst.length → 0 ≤ acc → acc ≤ 4 * i → Gives (fun k => spec_used.l0 k g (ints lst) p acc (i : Int)) (acc + usedL g p (lst.drop i))
  | 0, i, acc, h, h0, h1 => by
    refine Gives.of_succ (G := fun _ => some acc) (fun k => by rw [spec_used.l0, if_neg (by rw [ints_length]; omega)]) ?_
    rw [List.drop_eq_nil_of_le (by omega), usedL, Int.add_zero]
    exact Gives.const _
  | r + 1, i, acc, h, h0, h1 => by
    have hd : lst.drop i = lst[i]'(by omega) :: lst.drop (i + 1) := List.drop_eq_getElem_cons (by omega)
    have hrd : rd (ints lst) (i : Int) = ((lst[i]'(by omega) : Nat) : Int) := by simp [rd, ints, List.getElem?_eq_getElem (show i < lst.length by omega)]
    have hj := hlt _ (List.getElem_mem (show i < lst.length by omega))
    rw [hd, usedL]
    generalize lst[i]'(by omega) = j at hrd hj
    have hu' := hu j hj
    have hw : wrap64 (acc + (rd_T33 g (j : Int)).f3) = acc + (rd_T33 g (j : Int)).f3 := by unfold wrap64; omega
    refine Gives.of_succ (G := fun k => if (rd_T33 g (j : Int)).f2 = p then spec_used.l0 k g (ints lst) p (acc + (rd_T33 g (j : Int)).f3) ((i + 1 : Nat) : Int) else spec_used.l0 k g (ints lst) p acc ((i + 1 : Nat) : Int)) (fun k => by
      rw [spec_used.l0, if_pos (by rw [ints_length]; omega), if_pos (by omega), hrd, if_pos (by omega), if_pos (by omega), hw, wrap_succ i (by omega)]) ?_
    by_cases c : (rd_T33 g (j : Int)).f2 = p
    · simp only [if_pos c]
      have := used_l g p lst hl hlt hu r (i + 1) (acc + (rd_T33 g (j : Int)).f3) (by omega) (by omega) (by omega)
      rw [Int.add_assoc] at this
      exact this
    simp only [if_neg c, Int.zero_add]
    exact used_l g p lst hl hlt hu r (i + 1) acc (by omega) (by omega) (by omega)
theorem used_gives (g : List Tk) (p : Int) (lst : List Nat) (hl : lst.length ≤ 8) (hlt : ∀ i ∈ lst, i < g.length) (hu : ∀ i, i < g.length → 1 ≤ (rd_T33 g (i : Int)).f3 ∧ (rd_T33 g (i : Int)).f3 ≤ 4) :
    Gives (fun k => spec_used.f k g (ints lst) p) (usedL g p lst) := by
  have := used_l g p lst hl hlt hu lst.length 0 0 (by omega) (by omega) (by omega)
  rw [Int.zero_add] at this
  exact this

theorem asc_ints : ∀ l : List Nat, l.Pairwise (· < ·) → ascB (ints l) = true
  | [], _ => rfl
  | a :: l, h => by
    have h' := List.pairwise_cons.1 h
    refine asc_of (asc_ints l h'.2) (fun b hb => ?_)
    obtain ⟨j, hj, rfl⟩ := List.mem_map.1 hb
    have := h'.1 j hj
    show (a : Int) < (j : Int)
    omega
theorem runL_asc (g : List Tk) (start : List Int) (now : Int) (r i : Nat) : (runL g start now r i).Pairwise (· < ·) := List.Pairwise.filter _ List.pairwise_lt_range'
theorem runL_lt {g : List Tk} {start : List Int} {now : Int} {r i j : Nat} (h : j ∈ runL g start now r i) : j < i + r := by
  unfold runL at h
  have := (List.mem_filter.1 h).1
  rw [List.mem_range'_1] at this
  exact this.2
theorem runL_len (g : List Tk) (start : List Int) (now : Int) (r i : Nat) : (runL g start now r i).length ≤ r := by
  unfold runL
  exact Nat.le_trans (List.length_filter_le _ _) (by simp)

def vrB (g : List Tk) (room : List Int) (lst : List Nat) : Bool := decide (usedL g 0 lst ≤ rd room 0) && (decide (usedL g 1 lst ≤ rd room 1) && decide (usedL g 2 lst ≤ rd room 2))

theorem validRunning_l (g : List Tk) (room : List Int) (hr : room.length = 3) (lst : List Nat) (hl : lst.length ≤ 8) (hlt : ∀ i ∈ lst, i < g.length) (hu : ∀ i, i < g.length → 1 ≤ (rd_T33 g (i : Int)).f3 ∧ (rd_T33 g (i : Int)).f3 ≤ 4) :
    Gives (fun k => spec_validRunning.l0 k g room (ints lst) 0) (vrB g room lst) := by
  have step : ∀ (p : Nat) (v : Bool), p < 3 → Gives (fun k => spec_validRunning.l0 k g room (ints lst) ((p + 1 : Nat) : Int)) v → Gives (fun k => spec_validRunning.l0 k g room (ints lst) (p : Int)) (decide (usedL g (p : Int) lst ≤ rd room (p : Int)) && v) := by
    intro p v hp hv
    refine Gives.of_succ (G := fun k => (spec_used.f k g (ints lst) (p : Int)).bind fun t => if t > rd room (p : Int) then some false else spec_validRunning.l0 k g room (ints lst) ((p + 1 : Nat) : Int)) (fun k => by
      rw [spec_validRunning.l0, if_pos (by omega), wrap_succ p (by omega)]
      congr 1
      funext t
      rw [if_pos (by omega), if_pos (by omega)]) ?_
    refine Gives.bind (G := fun k t => if t > rd room (p : Int) then some false else spec_validRunning.l0 k g room (ints lst) ((p + 1 : Nat) : Int)) (used_gives g (p : Int) lst hl hlt hu) ?_
    by_cases c : usedL g (p : Int) lst > rd room (p : Int)
    · rw [show decide (usedL g (p : Int) lst ≤ rd room (p : Int)) = false by simp; exact c]
      simp only [if_pos c, Bool.false_and]
      exact Gives.const _
    rw [show decide (usedL g (p : Int) lst ≤ rd room (p : Int)) = true by simp; omega]
    simp only [if_neg c, Bool.true_and]
    exact hv
  have h3 : Gives (fun k => spec_validRunning.l0 k g room (ints lst) ((3 : Nat) : Int)) true := Gives.of_succ (G := fun _ => some true) (fun k => by rw [spec_validRunning.l0, if_neg (by omega)]) (Gives.const _)
  have h2 := step 2 true (by omega) h3
  have h1 := step 1 _ (by omega) h2
  have h0 := step 0 _ (by omega) h1
  rw [Bool.and_true] at h0
  exact h0

theorem validRunning_gives (g : List Tk) (room : List Int) (hgo : (gOf g).isSome = true) (hb : ∀ t ∈ g, t.f1.length < 4611686018427387904) (h8 : g.length ≤ 8) (hro : roomB room = true) (hr : room.length = 3) (lst : List Nat) (hl : lst.length ≤ 8) (ha : lst.Pairwise (· < ·)) (hlt : ∀ i ∈ lst, i < g.length) (hu : ∀ i, i < g.length → 1 ≤ (rd_T33 g (i : Int)).f3 ∧ (rd_T33 g (i : Int)).f3 ≤ 4) :
    Gives (fun k => spec_validRunning.f k g room (ints lst)) (vrB g room lst) := by
  have hil : (ints lst).length < 4611686018427387904 := by rw [ints_length]; omega
  have hw : wrap64 ((g.length : Int) - 1) = (g.length : Int) - 1 := by unfold wrap64; omega
  have hv := validGraph_gives g (by omega) hb
  rw [hgo] at hv
  have hro' := validRoom_gives room (by omega)
  rw [hro] at hro'
  have has := ascends_gives (ints lst) hil
  rw [asc_ints lst ha] at has
  have hal := allIn_gives (ints lst) 0 ((g.length : Int) - 1) hil
  rw [show ((ints lst).all fun a => withinB a 0 ((g.length : Int) - 1)) = true by
    rw [List.all_eq_true]
    intro a hm
    obtain ⟨j, hj, rfl⟩ := List.mem_map.1 hm
    have := hlt j hj
    rw [withinB_iff']
    omega] at hal
  refine Gives.of_eq (G := fun k => (spec_validGraph.f k g).bind fun t166 => if t166 = true then ((spec_validRoom.f k room).bind fun t167 => if t167 = true then ((spec_ascends.f k (ints lst)).bind fun t168 => if t168 = true then ((spec_allIn.f k (ints lst) 0 ((g.length : Int) - 1)).bind fun t169 => spec_validRunning.j0 k g room (ints lst) (!t169)) else spec_validRunning.j0 k g room (ints lst) true) else spec_validRunning.j0 k g room (ints lst) true) else spec_validRunning.j0 k g room (ints lst) true) (fun k => by unfold spec_validRunning.f; rw [hw]) ?_
  refine Gives.bind (F := fun k => spec_validGraph.f k g) (G := fun k t166 => if t166 = true then ((spec_validRoom.f k room).bind fun t167 => if t167 = true then ((spec_ascends.f k (ints lst)).bind fun t168 => if t168 = true then ((spec_allIn.f k (ints lst) 0 ((g.length : Int) - 1)).bind fun t169 => spec_validRunning.j0 k g room (ints lst) (!t169)) else spec_validRunning.j0 k g room (ints lst) true) else spec_validRunning.j0 k g room (ints lst) true) else spec_validRunning.j0 k g room (ints lst) true) hv ?_
  simp only [if_true]
  refine Gives.bind (F := fun k => spec_validRoom.f k room) (G := fun k t167 => if t167 = true then ((spec_ascends.f k (ints lst)).bind fun t168 => if t168 = true then ((spec_allIn.f k (ints lst) 0 ((g.length : Int) - 1)).bind fun t169 => spec_validRunning.j0 k g room (ints lst) (!t169)) else spec_validRunning.j0 k g room (ints lst) true) else spec_validRunning.j0 k g room (ints lst) true) hro' ?_
  simp only [if_true]
  refine Gives.bind (F := fun k => spec_ascends.f k (ints lst)) (G := fun k t168 => if t168 = true then ((spec_allIn.f k (ints lst) 0 ((g.length : Int) - 1)).bind fun t169 => spec_validRunning.j0 k g room (ints lst) (!t169)) else spec_validRunning.j0 k g room (ints lst) true) has ?_
  simp only [if_true]
  refine Gives.bind (F := fun k => spec_allIn.f k (ints lst) 0 ((g.length : Int) - 1)) (G := fun k t169 => spec_validRunning.j0 k g room (ints lst) (!t169)) hal ?_
  refine Gives.of_succ (G := fun k => spec_validRunning.l0 k g room (ints lst) 0) (fun k => by rw [spec_validRunning.j0]; rfl) ?_
  exact validRunning_l g room hr lst hl hlt hu
end Go.Proofs.YtaoeopeempmnnaaDoor

/-
  DERIVED: THE SHELF's CONTRACTS AT THIS DUMP, IN PLAIN WORDS (tools/lay-plain.mjs out of 'YtaoeopeempmnnaaDoorShelf0.lean', which tools/lay-shelf.mjs wrote): THE SAME DECLARATIONS UNDER THE SAME NAMES: 'import', 'namespace', 'open', 'def', 'theorem' AND NOTHING ELSE: no command of the shelf's: FOR A HAND-IN. Each laying: the table of numbers ('.._ren') and one theorem, a field a fact of the dump's own or the kernel's comparison; each contract: ONE APPLICATION.
-/
namespace Go.Proofs
open Go.Shelf
def Tryd.sortCh_ren : Go.Shelf.Ren := ⟨fun | 6 => 76 | 15 => 93 | 14 => 92 | 28 => 109 | 29 => 110 | 20 => 101 | 21 => 102 | 22 => 103 | 23 => 104 | 24 => 105 | 25 => 106 | 26 => 107 | 27 => 108 | 46 => 113 | 47 => 114 | 48 => 115 | 49 => 116 | 50 => 117 | 57 => 118 | n => n, fun | 22 => 63 | 24 => 66 | 25 => 96 | 3 => 3 | 39 => 106 | 0 => 0 | 53 => 112 | 55 => 123 | 4 => 4 | 46 => 115 | 45 => 114 | 50 => 119 | 5 => 5 | 9 => 9 | 66 => 124 | 70 => 128 | 76 => 130 | 77 => 131 | n => n, fun | n => n⟩
theorem Tryd.sortCh : Go.Proofs.SlLaysF0.n6 Tryd.prog Tryd.sortCh_ren := {
  mixed := by kernel_rfl
  f6 := ⟨Tryd.f76.name, by decide, Tryd.func76.trans (congrArg some (by kernel_rfl))⟩
  f14 := ⟨Tryd.f92.name, by decide, Tryd.func92.trans (congrArg some (by kernel_rfl))⟩
  f15 := Tryd.func93.trans (congrArg some (by kernel_rfl))
  f20 := ⟨Tryd.f101.name, by decide, Tryd.func101.trans (congrArg some (by kernel_rfl))⟩
  f21 := ⟨Tryd.f102.name, by decide, Tryd.func102.trans (congrArg some (by kernel_rfl))⟩
  f22 := ⟨Tryd.f103.name, by decide, Tryd.func103.trans (congrArg some (by kernel_rfl))⟩
  f23 := ⟨Tryd.f104.name, by decide, Tryd.func104.trans (congrArg some (by kernel_rfl))⟩
  f24 := ⟨Tryd.f105.name, by decide, Tryd.func105.trans (congrArg some (by kernel_rfl))⟩
  f25 := ⟨Tryd.f106.name, by decide, Tryd.func106.trans (congrArg some (by kernel_rfl))⟩
  f26 := ⟨Tryd.f107.name, by decide, Tryd.func107.trans (congrArg some (by kernel_rfl))⟩
  f27 := ⟨Tryd.f108.name, by decide, Tryd.func108.trans (congrArg some (by kernel_rfl))⟩
  f28 := Tryd.func109.trans (congrArg some (by kernel_rfl))
  f29 := Tryd.func110.trans (congrArg some (by kernel_rfl))
  f46 := ⟨Tryd.f113.name, by decide, Tryd.func113.trans (congrArg some (by kernel_rfl))⟩
  f47 := Tryd.func114.trans (congrArg some (by kernel_rfl))
  f48 := Tryd.func115.trans (congrArg some (by kernel_rfl))
  f49 := ⟨Tryd.f116.name, by decide, Tryd.func116.trans (congrArg some (by kernel_rfl))⟩
  f50 := ⟨Tryd.f117.name, by decide, Tryd.func117.trans (congrArg some (by kernel_rfl))⟩
  f57 := ⟨Tryd.f118.name, by decide, Tryd.func118.trans (congrArg some (by kernel_rfl))⟩
  t0 := Tryd.underlying0
  a0 := Tryd.isAgg0
  z0 := Tryd.sizeOf0
  v0 := Tryd.zeroValue0
  t3 := Tryd.underlying3
  a3 := Tryd.isAgg3
  z3 := Tryd.sizeOf3
  v3 := Tryd.zeroValue3
  t4 := Tryd.underlying4
  a4 := Tryd.isAgg4
  z4 := Tryd.sizeOf4
  v4 := Tryd.zeroValue4
  t5 := Tryd.underlying5
  a5 := Tryd.isAgg5
  z5 := Tryd.sizeOf5
  v5 := Tryd.zeroValue5
  t9 := Tryd.underlying9
  a9 := Tryd.isAgg9
  z9 := Tryd.sizeOf9
  v9 := Tryd.zeroValue9
  t22 := Tryd.underlying63
  a22 := Tryd.isAgg63
  z22 := Tryd.sizeOf63
  v22 := Tryd.zeroValue63
  t25 := Tryd.underlying96
  a25 := Tryd.isAgg96
  z25 := Tryd.sizeOf96
  v25 := Tryd.zeroValue96
  t39 := Tryd.underlying106
  a39 := Tryd.isAgg106
  z39 := Tryd.sizeOf106
  v39 := Tryd.zeroValue106
  t45 := Tryd.underlying114
  a45 := Tryd.isAgg114
  z45 := Tryd.sizeOf114
  v45 := Tryd.zeroValue114
  t46 := Tryd.underlying115
  a46 := Tryd.isAgg115
  z46 := Tryd.sizeOf115
  v46 := Tryd.zeroValue115
  t50 := Tryd.underlying119
  a50 := Tryd.isAgg119
  z50 := Tryd.sizeOf119
  v50 := Tryd.zeroValue119
  t53 := Tryd.underlying112
  a53 := Tryd.isAgg112
  z53 := Tryd.sizeOf112
  v53 := Tryd.zeroValue112
  t55 := Tryd.underlying123
  a55 := Tryd.isAgg123
  z55 := Tryd.sizeOf123
  v55 := Tryd.zeroValue123
  t66 := Tryd.underlying124
  a66 := Tryd.isAgg124
  z66 := Tryd.sizeOf124
  v66 := Tryd.zeroValue124
  t70 := Tryd.underlying128
  a70 := Tryd.isAgg128
  z70 := Tryd.sizeOf128
  v70 := Tryd.zeroValue128
  t76 := Tryd.underlying130
  a76 := Tryd.isAgg130
  z76 := Tryd.sizeOf130
  v76 := Tryd.zeroValue130
  t77 := Tryd.underlying131
  a77 := Tryd.isAgg131
  z77 := Tryd.sizeOf131
  v77 := Tryd.zeroValue131 }
def Tryd.cmpI_ren : Go.Shelf.Ren := ⟨fun | 5 => 79 | 7 => 94 | n => n, fun | 22 => 3 | 3 => 3 | 4 => 4 | n => n, fun | n => n⟩
theorem Tryd.cmpI : Go.Proofs.SlLaysC2.n5 Tryd.prog Tryd.cmpI_ren := {
  mixed := by kernel_rfl
  f5 := ⟨Tryd.f79.name, by decide, Tryd.func79.trans (congrArg some (by kernel_rfl))⟩
  f7 := ⟨Tryd.f94.name, by decide, Tryd.func94.trans (congrArg some (by kernel_rfl))⟩
  t3 := Tryd.underlying3
  a3 := Tryd.isAgg3
  z3 := Tryd.sizeOf3
  v3 := Tryd.zeroValue3
  t4 := Tryd.underlying4
  a4 := Tryd.isAgg4
  z4 := Tryd.sizeOf4
  v4 := Tryd.zeroValue4
  t22 := Tryd.underlying3
  a22 := Tryd.isAgg3
  z22 := Tryd.sizeOf3
  v22 := Tryd.zeroValue3 }
end Go.Proofs

/-
  THE SORT OF THE CHANGES: slices.SortFunc by the shelf's contract, cmp.Compare by the shelf's, cmp.Or and the closure by walks.
-/

namespace Go.Proofs.YtaoeopeempmnnaaDoor
open Go Go.RowKit Go.Shelf Go.Lib Go.Sort Go.Proofs.YtaoeopeempmnnaaDoor.M Go.Proofs.YtaoeopeempmnnaaDoorW.PrintWords Go.Proofs.YtaoeopeempmnnaaDoorW.PrintLast Go.Proofs.YtaoeopeempmnnaaDoorW.PrintMore
set_option linter.unusedSimpArgs false
set_option linter.unusedVariables false

def orI (a b : Int) : Int := if a ≠ 0 then a else b

set_option maxHeartbeats 4000000 in
theorem or_calls (B : Nat) (a b : Int) (w : World) (h0 : w.cell? ⟨B, 0, none⟩ = some (.int .i64 a)) (h1 : w.cell? ⟨B, 1, none⟩ = some (.int .i64 b)) :
    Calls Tryd.prog 78 #[.slice (some ⟨B, 0, none⟩) 2 2] w fun e w' => e = .returned (.int .i64 (orI a b)) ∧ w' = w := by
  go_enter Tryd.func78, Tryd.ntmps78
  go_wp2
  go_loopw [5, 8] (fun v5 v8 wr => ∃ i : Nat, v8 = .int .i64 (i : Int) ∧ i ≤ 2 ∧ (0 < i → a = 0) ∧ (1 < i → b = 0) ∧ wr = w) (fun v5 v8 _ => 2 - (intOf v8).toNat)
  case atStart => exact ⟨0, rfl, by omega, by omega, by omega, rfl⟩
  case round =>
    obtain ⟨i, rfl, hi, ha, hb, rfl⟩ := hrel
    obtain rfl | rfl | rfl : i = 0 ∨ i = 1 ∨ i = 2 := by omega
    · by_cases c : a = 0
      · have e1 : (a != 0) = false := by simp [c]
        go_wp2
        go_roundw
        case rel => exact ⟨1, rfl, by omega, fun _ => c, by omega, by first | rfl | trivial⟩
        case measure => simp [intOf]
      have e1 : (a != 0) = true := by simp [c]
      go_wp2
      go_ret
      exact ⟨by simp [orI, c], rfl⟩
    · have c0 : a = 0 := ha (by omega)
      by_cases c : b = 0
      · have e1 : (b != 0) = false := by simp [c]
        go_wp2
        go_roundw
        case rel => exact ⟨2, rfl, by omega, fun _ => c0, fun _ => c, by first | rfl | trivial⟩
        case measure => simp [intOf]
      have e1 : (b != 0) = true := by simp [c]
      go_wp2
      go_ret
      exact ⟨by simp [orI, c0], rfl⟩
    have c0 : a = 0 := ha (by omega)
    have c1 : b = 0 := hb (by omega)
    go_wp2
    go_ret
    exact ⟨by simp [orI, c0, c1], rfl⟩

def encEv (x : Ev) : List Value := [.int .i64 x.tm, .int .i64 x.task, .bool x.over]

theorem cf_or (x y : Ev) (h : ¬ (x.tm = y.tm ∧ x.over ≠ y.over)) : orI (Lib.compareInt x.tm y.tm) (Lib.compareInt x.task y.task) = cf x y := by
  unfold cf orI Lib.compareInt
  rw [if_neg h]
  by_cases h1 : x.tm < y.tm
  · simp [h1]
  by_cases h2 : y.tm < x.tm
  · simp [h1, h2]
  simp [h1, h2]

theorem ltOf_cf (x y : Ev) : ltOf cf x y = lt x y := by
  unfold ltOf lt
  rfl
theorem swo_cf : SWO (ltOf cf) where
  irrefl x := by rw [ltOf_cf]; exact lt_irrefl x
  trans x y z h1 h2 := by rw [ltOf_cf] at *; exact lt_trans h1 h2
  ntrans x y z h1 h2 := by rw [ltOf_cf] at *; exact nlt_trans h1 h2
theorem tot_cf (x y : Ev) (h1 : ltOf cf x y = false) (h2 : ltOf cf y x = false) : x = y := by rw [ltOf_cf] at *; exact lt_total h1 h2

set_option maxRecDepth 100000 in
set_option maxHeartbeats 4000000 in
theorem closure_calls (x y : Ev) (W : World) : Calls Tryd.prog 77 #[.agg (encEv x).toArray, .agg (encEv y).toArray] W fun e w' => e = .returned (.int .i64 (cf x y)) ∧ ∃ q os', w' = grow (W.drewN q) os' := by
  by_cases h : x.tm = y.tm ∧ x.over ≠ y.over
  · rcases x with ⟨tx, kx, ox⟩
    rcases y with ⟨ty, ky, oy⟩
    obtain ⟨h1, h2⟩ := h
    simp only at h1 h2
    subst h1
    have e1 : (tx == tx) = true := by simp
    cases ox <;> cases oy
    · exact absurd rfl h2
    · rw [show cf ⟨tx, kx, false⟩ ⟨tx, ky, true⟩ = 1 by simp [cf]]
      unfold encEv
      clear h2
      go_enter Tryd.func77, Tryd.ntmps77
      go_wp2
      go_ret
      exact ⟨rfl, 0, _, by rw [alloc_eq_grow, alloc_eq_grow, grow_grow]; rfl⟩
    · rw [show cf ⟨tx, kx, true⟩ ⟨tx, ky, false⟩ = -1 by simp [cf]]
      unfold encEv
      clear h2
      go_enter Tryd.func77, Tryd.ntmps77
      go_wp2
      go_ret
      exact ⟨rfl, 0, _, by rw [alloc_eq_grow, alloc_eq_grow, grow_grow]; rfl⟩
    exact absurd rfl h2
  rw [← cf_or x y h]
  rcases x with ⟨tx, kx, ox⟩
  rcases y with ⟨ty, ky, oy⟩
  have hT := fun W' => AnyG.cmp_Compare_int Tryd.cmpI tx ty W'
  change ∀ W', Calls Tryd.prog 79 _ _ _ at hT
  have hK := fun W' => AnyG.cmp_Compare_int Tryd.cmpI kx ky W'
  change ∀ W', Calls Tryd.prog 79 _ _ _ at hK
  simp only at h ⊢
  generalize Lib.compareInt tx ty = r1 at hT ⊢
  generalize Lib.compareInt kx ky = r2 at hK ⊢
  have HT := Aside0.mk hT
  have HK := Aside0.mk hK
  clear hT hK
  have e1 : (tx == ty && ox != oy) = false := by
    cases e : (tx == ty && ox != oy) with
    | false => rfl
    | true => simp at e; exact absurd e h
  unfold encEv
  by_cases c : tx = ty
  · subst c
    obtain rfl : ox = oy := by simpa using e1
    clear h e1
    have e2 : (tx == tx) = true := by simp
    cases ox
    · skip
      go_enter Tryd.func77, Tryd.ntmps77
      go_upto_region 5 with fail
      have hx0 : ((W.alloc (.cells #[.int .i64 tx, .int .i64 kx, .bool false] 66)).alloc (.cells #[.int .i64 tx, .int .i64 ky, .bool false] 66)).cell? ⟨W.heap.size, 0, none⟩ = some (.int .i64 tx) := (World.cell?_alloc_lt _ _ _ (by simp)).trans (World.cell?_alloc_new W _ _ 0)
      have hx1 : ((W.alloc (.cells #[.int .i64 tx, .int .i64 kx, .bool false] 66)).alloc (.cells #[.int .i64 tx, .int .i64 ky, .bool false] 66)).cell? ⟨W.heap.size, 1, none⟩ = some (.int .i64 kx) := (World.cell?_alloc_lt _ _ _ (by simp)).trans (World.cell?_alloc_new W _ _ 1)
      have hy0 : ((W.alloc (.cells #[.int .i64 tx, .int .i64 kx, .bool false] 66)).alloc (.cells #[.int .i64 tx, .int .i64 ky, .bool false] 66)).cell? ⟨W.heap.size + 1, 0, none⟩ = some (.int .i64 tx) := by have := World.cell?_alloc_new (W.alloc (.cells #[.int .i64 tx, .int .i64 kx, .bool false] 66)) #[.int .i64 tx, .int .i64 ky, .bool false] 66 0; rw [World.size_alloc] at this; exact this
      have hy1 : ((W.alloc (.cells #[.int .i64 tx, .int .i64 kx, .bool false] 66)).alloc (.cells #[.int .i64 tx, .int .i64 ky, .bool false] 66)).cell? ⟨W.heap.size + 1, 1, none⟩ = some (.int .i64 ky) := by have := World.cell?_alloc_new (W.alloc (.cells #[.int .i64 tx, .int .i64 kx, .bool false] 66)) #[.int .i64 tx, .int .i64 ky, .bool false] 66 1; rw [World.size_alloc] at this; exact this
      have hw : ∃ os, ((W.alloc (.cells #[.int .i64 tx, .int .i64 kx, .bool false] 66)).alloc (.cells #[.int .i64 tx, .int .i64 ky, .bool false] 66)) = grow W os := ⟨_, by rw [alloc_eq_grow, alloc_eq_grow, grow_grow]⟩
      generalize (W.alloc (.cells #[.int .i64 tx, .int .i64 kx, .bool false] 66)).alloc (.cells #[.int .i64 tx, .int .i64 ky, .bool false] 66) = W1 at hx0 hx1 hy0 hy1 hw ⊢
      have HW := Aside0.mk hw
      clear hw
      refine wp_region_still_tail 10 rfl (by kernel_rfl) ?_
      simp only [List.take_succ_cons, List.take_zero, List.drop_succ_cons, List.drop_zero]
      iterate 4 still_step
      still_call (HT.out _)
      iterate 4 still_step
      still_call (HK.out _)
      refine wpStill_nil ?_
      go_wp2_with (go_at_call 78; refine (or_calls _ r1 r2 _ ?h0 ?h1).mono ?_; (case h0 => exact World.cell?_alloc_new _ _ _ 0); (case h1 => exact World.cell?_alloc_new _ _ _ 1); rintro e w' ⟨rfl, rfl⟩)
      go_ret
      obtain ⟨os, hos⟩ := HW.out
      exact ⟨rfl, 1, _, by rw [hos, alloc_eq_grow, grow_grow]; rfl⟩
    skip
    go_enter Tryd.func77, Tryd.ntmps77
    go_upto_region 5 with fail
    have hx0 : ((W.alloc (.cells #[.int .i64 tx, .int .i64 kx, .bool true] 66)).alloc (.cells #[.int .i64 tx, .int .i64 ky, .bool true] 66)).cell? ⟨W.heap.size, 0, none⟩ = some (.int .i64 tx) := (World.cell?_alloc_lt _ _ _ (by simp)).trans (World.cell?_alloc_new W _ _ 0)
    have hx1 : ((W.alloc (.cells #[.int .i64 tx, .int .i64 kx, .bool true] 66)).alloc (.cells #[.int .i64 tx, .int .i64 ky, .bool true] 66)).cell? ⟨W.heap.size, 1, none⟩ = some (.int .i64 kx) := (World.cell?_alloc_lt _ _ _ (by simp)).trans (World.cell?_alloc_new W _ _ 1)
    have hy0 : ((W.alloc (.cells #[.int .i64 tx, .int .i64 kx, .bool true] 66)).alloc (.cells #[.int .i64 tx, .int .i64 ky, .bool true] 66)).cell? ⟨W.heap.size + 1, 0, none⟩ = some (.int .i64 tx) := by have := World.cell?_alloc_new (W.alloc (.cells #[.int .i64 tx, .int .i64 kx, .bool true] 66)) #[.int .i64 tx, .int .i64 ky, .bool true] 66 0; rw [World.size_alloc] at this; exact this
    have hy1 : ((W.alloc (.cells #[.int .i64 tx, .int .i64 kx, .bool true] 66)).alloc (.cells #[.int .i64 tx, .int .i64 ky, .bool true] 66)).cell? ⟨W.heap.size + 1, 1, none⟩ = some (.int .i64 ky) := by have := World.cell?_alloc_new (W.alloc (.cells #[.int .i64 tx, .int .i64 kx, .bool true] 66)) #[.int .i64 tx, .int .i64 ky, .bool true] 66 1; rw [World.size_alloc] at this; exact this
    have hw : ∃ os, ((W.alloc (.cells #[.int .i64 tx, .int .i64 kx, .bool true] 66)).alloc (.cells #[.int .i64 tx, .int .i64 ky, .bool true] 66)) = grow W os := ⟨_, by rw [alloc_eq_grow, alloc_eq_grow, grow_grow]⟩
    generalize (W.alloc (.cells #[.int .i64 tx, .int .i64 kx, .bool true] 66)).alloc (.cells #[.int .i64 tx, .int .i64 ky, .bool true] 66) = W1 at hx0 hx1 hy0 hy1 hw ⊢
    have HW := Aside0.mk hw
    clear hw
    refine wp_region_still_tail 10 rfl (by kernel_rfl) ?_
    simp only [List.take_succ_cons, List.take_zero, List.drop_succ_cons, List.drop_zero]
    iterate 4 still_step
    still_call (HT.out _)
    iterate 4 still_step
    still_call (HK.out _)
    refine wpStill_nil ?_
    go_wp2_with (go_at_call 78; refine (or_calls _ r1 r2 _ ?h0 ?h1).mono ?_; (case h0 => exact World.cell?_alloc_new _ _ _ 0); (case h1 => exact World.cell?_alloc_new _ _ _ 1); rintro e w' ⟨rfl, rfl⟩)
    go_ret
    obtain ⟨os, hos⟩ := HW.out
    exact ⟨rfl, 1, _, by rw [hos, alloc_eq_grow, grow_grow]; rfl⟩
  have e2 : (tx == ty) = false := by simp [c]
  clear h e1 c
  go_enter Tryd.func77, Tryd.ntmps77
  go_upto_region 5 with fail
  have hx0 : ((W.alloc (.cells #[.int .i64 tx, .int .i64 kx, .bool ox] 66)).alloc (.cells #[.int .i64 ty, .int .i64 ky, .bool oy] 66)).cell? ⟨W.heap.size, 0, none⟩ = some (.int .i64 tx) := (World.cell?_alloc_lt _ _ _ (by simp)).trans (World.cell?_alloc_new W _ _ 0)
  have hx1 : ((W.alloc (.cells #[.int .i64 tx, .int .i64 kx, .bool ox] 66)).alloc (.cells #[.int .i64 ty, .int .i64 ky, .bool oy] 66)).cell? ⟨W.heap.size, 1, none⟩ = some (.int .i64 kx) := (World.cell?_alloc_lt _ _ _ (by simp)).trans (World.cell?_alloc_new W _ _ 1)
  have hy0 : ((W.alloc (.cells #[.int .i64 tx, .int .i64 kx, .bool ox] 66)).alloc (.cells #[.int .i64 ty, .int .i64 ky, .bool oy] 66)).cell? ⟨W.heap.size + 1, 0, none⟩ = some (.int .i64 ty) := by have := World.cell?_alloc_new (W.alloc (.cells #[.int .i64 tx, .int .i64 kx, .bool ox] 66)) #[.int .i64 ty, .int .i64 ky, .bool oy] 66 0; rw [World.size_alloc] at this; exact this
  have hy1 : ((W.alloc (.cells #[.int .i64 tx, .int .i64 kx, .bool ox] 66)).alloc (.cells #[.int .i64 ty, .int .i64 ky, .bool oy] 66)).cell? ⟨W.heap.size + 1, 1, none⟩ = some (.int .i64 ky) := by have := World.cell?_alloc_new (W.alloc (.cells #[.int .i64 tx, .int .i64 kx, .bool ox] 66)) #[.int .i64 ty, .int .i64 ky, .bool oy] 66 1; rw [World.size_alloc] at this; exact this
  have hw : ∃ os, ((W.alloc (.cells #[.int .i64 tx, .int .i64 kx, .bool ox] 66)).alloc (.cells #[.int .i64 ty, .int .i64 ky, .bool oy] 66)) = grow W os := ⟨_, by rw [alloc_eq_grow, alloc_eq_grow, grow_grow]⟩
  generalize (W.alloc (.cells #[.int .i64 tx, .int .i64 kx, .bool ox] 66)).alloc (.cells #[.int .i64 ty, .int .i64 ky, .bool oy] 66) = W1 at hx0 hx1 hy0 hy1 hw ⊢
  have HW := Aside0.mk hw
  clear hw
  refine wp_region_still_tail 10 rfl (by kernel_rfl) ?_
  simp only [List.take_succ_cons, List.take_zero, List.drop_succ_cons, List.drop_zero]
  iterate 4 still_step
  still_call (HT.out _)
  iterate 4 still_step
  still_call (HK.out _)
  refine wpStill_nil ?_
  go_wp2_with (go_at_call 78; refine (or_calls _ r1 r2 _ ?h0 ?h1).mono ?_; (case h0 => exact World.cell?_alloc_new _ _ _ 0); (case h1 => exact World.cell?_alloc_new _ _ _ 1); rintro e w' ⟨rfl, rfl⟩)
  go_ret
  obtain ⟨os, hos⟩ := HW.out
  exact ⟨rfl, 1, _, by rw [hos, alloc_eq_grow, grow_grow]; rfl⟩
end Go.Proofs.YtaoeopeempmnnaaDoor

/-
  changes: the events of a schedule, in their order.
-/
namespace Go.Proofs.YtaoeopeempmnnaaDoor
open Go Go.RowKit Go.Shelf Go.Sort Go.Proofs.YtaoeopeempmnnaaDoor.M Go.Proofs.YtaoeopeempmnnaaDoorW.PrintWords Go.Proofs.YtaoeopeempmnnaaDoorW.PrintLast Go.Proofs.YtaoeopeempmnnaaDoorW.PrintMore Go.Proofs.YtaoeopeempmnnaaDoor.PA
set_option linter.unusedSimpArgs false
set_option linter.unusedVariables false

theorem IsG.at {W : World} {b : Nat} {g : List Tk} {ms ord : List Nat} (h : IsG W b g ms ord) : ∃ A0 c0, W.cell? ⟨b, 0, none⟩ = some (.slice A0 g.length c0) ∧ g.length ≤ c0 ∧ Kd.C k33 W A0 g.length g := by
  obtain ⟨A0, c0, A1, c1, A2, c2, v3, v4, hh, h1, h2, h3, h4, h5, h6⟩ := h
  exact ⟨A0, c0, by simp [World.cell?, hh], h1, h2⟩

theorem size_calls (b : Nat) (g : List Tk) (ms ord : List Nat) (w : World) (h : IsG w b g ms ord) :
    Calls Tryd.prog 52 #[.pointer (some ⟨b, 0, none⟩)] w fun e w' => e = .returned (.int .i64 (g.length : Int)) ∧ w' = w := by
  obtain ⟨A0, c0, hc, _, _⟩ := h.at
  go_enter Tryd.func52, Tryd.ntmps52
  go_wp2
  go_ret
  exact ⟨rfl, rfl⟩

def cellsOf (l : List Ev) : List Value := l.flatMap encEv
theorem cellsOf_append (l m : List Ev) : cellsOf (l ++ m) = cellsOf l ++ cellsOf m := by simp [cellsOf]
theorem cellsOf_one (l : List Ev) : ∀ u ∈ cellsOf l, u.oneCell' = true := by
  intro u hu
  unfold cellsOf at hu
  obtain ⟨x, _, hx⟩ := List.mem_flatMap.1 hu
  simp only [encEv, List.mem_cons, List.not_mem_nil, or_false] at hx
  rcases hx with rfl | rfl | rfl <;> rfl
theorem cellsOf_get : ∀ (l : List Ev) (t : Nat), t < l.length * 3 → (cellsOf l)[t]? = some ((encEv l[t / 3]!)[t % 3]!)
  | [], t, h => by simp at h
  | a :: l, t, h => by
    have e : cellsOf (a :: l) = encEv a ++ cellsOf l := by simp [cellsOf]
    rw [e]
    by_cases h3 : t < 3
    · rw [List.getElem?_append_left (by simp [encEv]; omega), show t / 3 = 0 by omega, show t % 3 = t by omega]
      obtain rfl | rfl | rfl : t = 0 ∨ t = 1 ∨ t = 2 := by omega
      all_goals simp [encEv]
    rw [List.getElem?_append_right (by simp [encEv]; omega)]
    have hl : (encEv a).length = 3 := rfl
    rw [hl, cellsOf_get l (t - 3) (by simp at h; omega), show t / 3 = (t - 3) / 3 + 1 by omega, show t % 3 = (t - 3) % 3 by omega]
    simp

/-- What lies at a slice of changes. -/
def EvAt (w : World) (A : Option Addr) (l : List Ev) : Prop := ∀ j x, l[j]? = some x → ∃ q, A = some ⟨q, 0, none⟩ ∧ w.cell? ⟨q, j * 3, none⟩ = some (.int .i64 x.tm) ∧ w.cell? ⟨q, j * 3 + 1, none⟩ = some (.int .i64 x.task) ∧ w.cell? ⟨q, j * 3 + 2, none⟩ = some (.bool x.over)
theorem info60 : (Tryd.prog.info? 66).map (fun i => (i.zero, i.size, i.bytes)) = some (some (.agg #[.int .i64 0, .int .i64 0, .bool false]), 3, 24) := by kernel_rfl

theorem own_make0 {P : Program} {ops : Array Oper} {rest : List Oper} {o : Oper} {a : Act} {Q : Exit → Act → World → Prop} {W : World} (base e : Nat) (hgd : o.guard = none) (t : TypeId) (x y : Operand) (ho : o.op = .makeSlice t x y) (n : Nat) (k : Int) (z : Value) (size bytes : Nat)
    (hx : a.eval x = .int .i64 0) (hy : a.eval y = .int .i64 k) (hk : k = (n : Int)) (ht : P.underlying t = some (.slice e)) (hinfo : (P.info? e).map (fun i => (i.zero, i.size, i.bytes)) = some (some z, size, bytes))
    (hl : bytes * n ≤ 281474976710656) (hn : n ≤ maxLen) (hbase : base ≤ W.heap.size)
    (h : ∀ w1, w1.ownsRow base e size (.slice (some ⟨W.heap.size, 0, none⟩) 0 n) 0 [] → W.grownBy w1 none → wpList P ops Q rest (a.put o.dst (.slice (some ⟨W.heap.size, 0, none⟩) 0 n)) w1) : wpList P ops Q (o :: rest) a W := by
  subst hk
  obtain ⟨i0, hi, hzz⟩ := Option.map_eq_some_iff.1 hinfo
  simp only [Prod.mk.injEq] at hzz
  obtain ⟨hz0, hz1, hz2⟩ := hzz
  obtain ⟨w', hr, hown, hg⟩ := run_make_own (P := P) (w := W) base t e i0 z size ht hi hz0 hz1 .i64 .i64 n (by rw [hz2]; exact hl) hn hbase
  refine Kd.event_run hgd (v := .slice (some ⟨W.heap.size, 0, none⟩) 0 n) (w1 := w') ?_ (h _ hown hg)
  simp [execOp, ho, hx, hy, hr]

theorem own_append {P : Program} {ops : Array Oper} {rest : List Oper} {o : Oper} {a : Act} {Q : Exit → Act → World → Prop} {W : World} (hgd : o.guard = none) (s x : Operand) (t : TypeId)
    (ho : o.op = .call { callee := .builtin .append, args := #[s, x], argTypes := #[t, t] })
    (base : Nat) (e : TypeId) (z : Value) (size bytes : Nat) (ht : P.underlying t = some (.slice e)) (hinfo : (P.info? e).map (fun i => (i.zero, i.size, i.bytes)) = some (some z, size, bytes)) (hzs : z.cells.size = size) (hsz : 0 < size)
    (v : Value) (n : Nat) (xs : List Value) (hs : a.eval s = v) (hown : W.ownsRow base e size v n xs)
    (m : Nat) (news : List Value) (hx : a.eval x = .slice (some ⟨W.heap.size, 0, none⟩) m m) (hl : news.length = m * size) (h1 : ∀ u ∈ news, u.oneCell' = true)
    (h63 : n + m ≤ maxLen) (hbytes : (n + m) * bytes ≤ 140737488355328) (hbase : base ≤ W.heap.size)
    (h : ∀ v' w', w'.ownsRow base e size v' (n + m) (xs ++ news) → (W.alloc (.cells news.toArray e)).grownBy w' v.ownBlock → (v' = .slice none 0 0 ↔ v = .slice none 0 0 ∧ m = 0) → wpList P ops Q rest (a.put o.dst v') w') :
    wpList P ops Q (o :: rest) a (W.alloc (.cells news.toArray e)) := by
  obtain ⟨i0, hi, hzz⟩ := Option.map_eq_some_iff.1 hinfo
  simp only [Prod.mk.injEq] at hzz
  obtain ⟨hz0, hz1, hz2⟩ := hzz
  exact wpList_append_own_at (W.alloc (.cells news.toArray e)) hgd s x t ho base e i0 z size bytes ht hi hz0 hz1 hz2 hzs hsz v n xs hs (hown.alloc _) ⟨W.heap.size, 0, none⟩ m m news hx hl
    (by simpa using World.news_of_block (cs := news.toArray) (t := e) (fr := (0, 0)) (heap_alloc_new W (.cells news.toArray e))) h1 h63 hbytes (by simp; omega) (fun v' w' h2 h3 h4 _ => h v' w' h2 h3 h4)

theorem own_base_lt {w : World} {base e size n : Nat} {v : Value} {xs : List Value} (h : w.ownsRow base e size v n xs) : ∀ k, v.ownBlock = some k → base ≤ k ∧ k < w.heap.size := by
  intro k hk
  obtain ⟨_, h | ⟨g, cap, cur, rfl, hb, hh, _⟩⟩ := h
  · rw [h.1] at hk; cases hk
  cases hk; exact ⟨hb, (Array.getElem?_eq_some_iff.1 hh).1⟩

theorem holdsK_of {W : World} {q cap : Nat} {cur : Array Value} {e : TypeId} (l : List Ev) (hh : W.heap[q]? = some (.cells cur e (0, 0))) (htk : cur.toList.take (l.length * 3) = cellsOf l) : HoldsK encEv 3 W q 0 l.toArray := by
  intro j hj
  rw [size_flatK] at hj
  have hj' : j < l.length * 3 := by simpa using hj
  have h1 : cur[j]? = some ((encEv l[j / 3]!)[j % 3]!) := by
    rw [← Array.getElem?_toList, ← cellsOf_get l j hj', ← htk, List.getElem?_take, if_pos hj']
  refine ⟨?_, by simp [World.frozen?, hh]⟩
  rw [Nat.zero_add, get_flatK _ _ _ _ hj]
  simp only [World.cell?, hh, id]
  rw [h1]
  simp

theorem evAt_sort {W : World} {q nn : Nat} {os : Array Obj} (l d : List Ev) (hH : HoldsK encEv 3 W q 0 d.toArray) (hq : q < W.heap.size) (hl : l.length = d.length) : EvAt (sortWorldK encEv 3 W q 0 nn l.toArray os) (some ⟨q, 0, none⟩) l := by
  have hP := holds_putRow id (Sort.ahead W nn) q 0 (flatK encEv 3 d.toArray) (flatK encEv 3 l.toArray) (fun j hj => hH j hj) (by simp [hl])
  have hc : ∀ t, t < l.length * 3 → (sortWorldK encEv 3 W q 0 nn l.toArray os).cell? ⟨q, t, none⟩ = some ((encEv l[t / 3]!)[t % 3]!) := by
    intro t ht
    have h1 := (hP t (by rw [size_flatK]; simpa using ht)).1
    rw [Nat.zero_add, get_flatK _ _ _ _ (by simpa using ht)] at h1
    unfold sortWorldK
    rw [cell?_grow _ _ _ (by simp [putRowK, Sort.ahead]; exact hq)]
    refine h1.trans ?_
    simp
  intro j x hx
  have hj : j < l.length := (List.getElem?_eq_some_iff.1 hx).1
  have hx' : l[j]! = x := by rw [List.getElem!_eq_getElem?_getD, hx]; rfl
  refine ⟨q, rfl, ?_, ?_, ?_⟩
  · have := hc (j * 3) (by omega)
    rw [show j * 3 / 3 = j by omega, show j * 3 % 3 = 0 by omega, hx'] at this
    exact this
  · have := hc (j * 3 + 1) (by omega)
    rw [show (j * 3 + 1) / 3 = j by omega, show (j * 3 + 1) % 3 = 1 by omega, hx'] at this
    exact this
  have := hc (j * 3 + 2) (by omega)
  rw [show (j * 3 + 2) / 3 = j by omega, show (j * 3 + 2) % 3 = 2 by omega, hx'] at this
  exact this

theorem below_sort {W : World} {q B nn : Nat} {os : Array Obj} {l : Array Ev} (hB : B ≤ q) (hs : B ≤ W.heap.size) : Below B W (sortWorldK encEv 3 W q 0 nn l os) := by
  refine ⟨rfl, rfl, rfl, ?_, fun k hk => ?_⟩
  · simp [sortWorldK, grow, putRowK, Sort.ahead]
  show ((putRowK encEv 3 (Sort.ahead W nn) q 0 l).heap ++ os)[k]? = _
  rw [Array.getElem?_append_left (by simp [putRowK, Sort.ahead]; omega)]
  simp only [putRowK, putRow, mapBlock, Array.getElem?_modify]
  rw [if_neg (by omega)]
  rfl

set_option maxHeartbeats 4000000 in
set_option maxRecDepth 100000 in
theorem changes_calls (b : Nat) (g : List Tk) (ms ord : List Nat) (AS : Option Addr) (cS : Nat) (start : List Int) (w : World) (h : IsG w b g ms ord) (h8 : g.length ≤ 8) (hl : start.length = g.length)
    (hS : Kd.C (Kd.int .i64) w AS start.length start) (hcS : start.length ≤ cS) (hW : ∀ i, i < g.length → wrap64 (rd start (i : Int) + (rd_T33 g (i : Int)).f0) = rd start (i : Int) + (rd_T33 g (i : Int)).f0) :
    Calls Tryd.prog 53 #[.pointer (some ⟨b, 0, none⟩), .slice AS start.length cS] w fun e w' =>
      ∃ A c, e = .returned (.slice A (2 * g.length : Nat) c) ∧ EvAt w' A (sorted (evs (fun i => rd start (i : Int)) (fun i => (rd_T33 g (i : Int)).f0) g.length)) ∧ (∀ ad, A = some ad → w.heap.size ≤ ad.block) ∧ Below w.heap.size w w' := by
  have HI := Aside0.mk h
  have HS := Aside0.mk hS
  have HWr := Aside0.mk hW
  have hsz := size_calls b g ms ord w h
  have h2 : wrap64 (2 * (g.length : Int)) = ((2 * g.length : Nat) : Int) := by unfold wrap64; omega
  have H2 := Aside0.mk h2
  have HZ := Aside0.mk hsz
  clear h hS hW hsz h2
  go_enter Tryd.func53, Tryd.ntmps53
  go_wp2_with (first
    | (go_at_call 52; refine HZ.out.mono ?_; rintro e w1 ⟨rfl, hw⟩; have hw := hw.symm; subst hw)
    | ((with_reducible refine gate_dst (N := 11) rfl ?_); refine own_make0 (W := w) w.heap.size 66 rfl 63 (.const (.int .i64 0)) (.tmp 10) rfl (2 * g.length) _ (.agg #[.int .i64 0, .int .i64 0, .bool false]) 3 24 rfl rfl (by omega) Tryd.underlying63 info60 (by omega) (by unfold maxLen; omega) (Nat.le_refl _) ?_; intro w1 ho hg; have HO := Aside0.mk ho; have HB := Aside0.mk ((Below.refl w.heap.size w).grown hg (Nat.le_refl _) (fun k hk => by cases hk)); clear ho hg))
  go_loopw [5, 14] (fun v5 v14 wr => ∃ i : Nat, v14 = .int .i64 (i : Int) ∧ Aside0 (i ≤ g.length) ∧ Aside0 (wr.ownsRow w.heap.size 66 3 v5 (2 * i) (cellsOf (evs (fun i => rd start (i : Int)) (fun i => (rd_T33 g (i : Int)).f0) i)) ∧ v5 ≠ .slice none 0 0) ∧ Aside0 (Below w.heap.size w wr)) (fun _ v14 _ => g.length - (intOf v14).toNat)
  case atStart => exact ⟨0, rfl, ⟨Nat.zero_le _⟩, ⟨HO.out, by simp⟩, HB⟩
  case round =>
    clear HO HB
    obtain ⟨i, rfl, Hi, HO, HB⟩ := hrel
    by_cases hlt : i < g.length
    · obtain ⟨ad, ead, hx⟩ := Kd.at_int HS.out (i : Int) (by omega) (by omega)
      cases ead
      replace hx := (HB.out.cell (World.block_lt_of_cell? w _ hx)).trans hx
      obtain ⟨A0, c0, hc0, hle0, hC0⟩ := (HI.out.below HB.out).at
      obtain ⟨ad1, A1, c1, ead1, hx0, hx1, hx2, hx3, hl1, hi1⟩ := at_T33 hC0 (i : Int) (by omega) (by omega)
      cases ead1
      simp only [Int.toNat_natCast] at hx hx0
      have hw := HWr.out i hlt
      have hE : evs (fun i => rd start (i : Int)) (fun i => (rd_T33 g (i : Int)).f0) (i + 1) = evs (fun i => rd start (i : Int)) (fun i => (rd_T33 g (i : Int)).f0) i ++ [⟨rd start (i : Int), i, false⟩, ⟨rd start (i : Int) + (rd_T33 g (i : Int)).f0, i, true⟩] := rfl
      have HE := Aside0.mk hE
      clear hE hx1 hx2 hx3 hl1 hi1 hC0
      generalize (rd_T33 g (i : Int)).f0 = tm at hw hx0 HE
      generalize rd start (i : Int) = at_ at hw hx HE
      have HW := Aside0.mk hw
      clear hw
      go_wp2_with (((with_reducible refine gate_builtin (b := .append) (xs := #[.tmp 19, .tmp 35]) rfl ?_); at_builtin; refine own_append (W := wr) rfl (.tmp 19) (.tmp 35) 63 rfl w.heap.size 66 (.agg #[.int .i64 0, .int .i64 0, .bool false]) 3 24 Tryd.underlying63 info60 rfl (by decide) u5 (2 * i) _ rfl HO.out.1 2 [.int .i64 at_, .int .i64 i, .bool false, .int .i64 (wrap64 (at_ + tm)), .int .i64 i, .bool true] rfl rfl (by intro u hu; simp only [List.mem_cons, List.not_mem_nil, or_false] at hu; rcases hu with rfl | rfl | rfl | rfl | rfl | rfl <;> rfl) (by unfold maxLen; omega) (by omega) (below_size HB.out) ?_; intro v1 w2 ho hg hnn; have HO2 := Aside0.mk ho; have HG2 := Aside0.mk hg; have HN2 := Aside0.mk hnn; clear ho hg hnn))
      have hB2 := (below_alloc HB.out (.cells #[.int .i64 at_, .int .i64 i, .bool false, .int .i64 (wrap64 (at_ + tm)), .int .i64 i, .bool true] 66)).grown HG2.out (by simp; have := below_size HB.out; omega) (fun k hk => (own_base_lt HO.out.1 k hk).1)
      have HB2 := Aside0.mk hB2
      clear hB2
      go_roundw
      case rel => exact ⟨i + 1, by go_num, ⟨by omega⟩, ⟨by rw [HE.out, cellsOf_append]; have := HO2.out; rw [HW.out] at this; exact this, fun h => absurd (HN2.out.1 h).2 (by decide)⟩, HB2⟩
      case measure => simp [intOf]; omega
    obtain rfl : i = g.length := by have := Hi.out; omega
    obtain ⟨hlen, h0 | ⟨q, cap, cur, rfl, hbq, hh, hn, hcap, hcs, htk⟩⟩ := HO.out.1
    · exact absurd h0.1 HO.out.2
    have hev : (evs (fun i => rd start (i : Int)) (fun i => (rd_T33 g (i : Int)).f0) g.length).length = 2 * g.length := evs_length _ _ _
    have hHK := holdsK_of (cap := cap) (evs (fun i => rd start (i : Int)) (fun i => (rd_T33 g (i : Int)).f0) g.length) hh (by rw [hev]; exact htk)
    generalize hEv : evs (fun i => rd start (i : Int)) (fun i => (rd_T33 g (i : Int)).f0) g.length = l at *
    have hq : q < wr.heap.size := (Array.getElem?_eq_some_iff.1 hh).1
    have eg : ∀ args w, (callFunc 77 args).run Tryd.prog w = .ok (.enter 77 args) w := enters_of Tryd.func77 (by kernel_rfl) rfl
    have hcon := AnyQ.slices_SortFunc_total Tryd.sortCh 3 Tryd.isAgg66 Tryd.sizeOf66 encEv (fun _ => rfl) (fun x v hv => by simp [encEv] at hv; rcases hv with rfl | rfl | rfl <;> rfl) cf swo_cf 77 #[] q 0 cap l.toArray wr eg (fun _ _ _ _ x y => closure_calls x y _) hHK hq (by simp; omega) tot_cf
    change Calls Tryd.prog 76 _ _ _ at hcon
    rw [show l.toArray.size = 2 * g.length by simp [hev], show (l.toArray.toList.mergeSort fun x y => !(ltOf cf) y x) = sorted l from rfl] at hcon
    have hsl : (sorted l).length = l.length := (sorted_perm l).length_eq
    have HCON := Aside0.mk hcon
    have HHK := Aside0.mk hHK
    have HBq := Aside0.mk hbq
    have HLT := Aside0.mk hq
    clear hcon hHK eg hh htk hcs hcap hn hbq hq HO
    generalize hSl : sorted l = sl at *
    have HEv := Aside0.mk hEv
    have HSl := Aside0.mk hSl
    clear hev hEv hSl
    go_wp2_with (go_at_call 76; refine HCON.out.mono ?_; rintro e w' ⟨rfl, nn, os, rfl⟩)
    go_ret
    exact ⟨_, _, rfl, by rw [HEv.out, HSl.out]; exact evAt_sort sl l HHK.out HLT.out hsl, (fun ad e => by cases e; exact HBq.out), HB.out.trans (below_sort HBq.out (below_size HB.out))⟩
end Go.Proofs.YtaoeopeempmnnaaDoor

/-
  THE COUNTER OF RUNNING TASKS: 'add', 'takes'.
-/
namespace Go.Proofs.YtaoeopeempmnnaaDoor
open Go Go.RowKit Go.Proofs.YtaoeopeempmnnaaDoorW.PrintWords Go.Proofs.YtaoeopeempmnnaaDoorW.PrintLast Go.Proofs.YtaoeopeempmnnaaDoorW.PrintMore Go.Proofs.YtaoeopeempmnnaaDoor.PA
set_option linter.unusedSimpArgs false
set_option linter.unusedVariables false

/-- The counter at block b. -/
def Ctr (W : World) (b : Nat) (tk : Int) (us : Nat → Int) : Prop := W.heap[b]? = some (.cells #[.int .i64 tk, .int .i64 (us 0), .int .i64 (us 1), .int .i64 (us 2)] 81 (0, 0))
theorem Ctr.of {W W' : World} {b : Nat} {tk : Int} {us : Nat → Int} (h : Ctr W b tk us) (he : W'.heap[b]? = W.heap[b]?) : Ctr W' b tk us := he.trans h
theorem Ctr.lt {W : World} {b : Nat} {tk : Int} {us : Nat → Int} (h : Ctr W b tk us) : b < W.heap.size := (Array.getElem?_eq_some_iff.1 h).1
theorem Ctr.c0 {W : World} {b : Nat} {tk : Int} {us : Nat → Int} (h : Ctr W b tk us) : W.cell? ⟨b, 0, none⟩ = some (.int .i64 tk) ∧ W.frozen? ⟨b, 0, none⟩ = false := by
  unfold Ctr at h
  constructor <;> simp [World.cell?, World.frozen?, h]
theorem Ctr.cu {W : World} {b : Nat} {tk : Int} {us : Nat → Int} (h : Ctr W b tk us) (p : Nat) (hp : p < 3) : W.cell? ⟨b, 1 + p, none⟩ = some (.int .i64 (us p)) ∧ W.frozen? ⟨b, 1 + p, none⟩ = false := by
  unfold Ctr at h
  obtain rfl | rfl | rfl : p = 0 ∨ p = 1 ∨ p = 2 := by omega
  all_goals constructor <;> simp [World.cell?, World.frozen?, h]
theorem Ctr.set0 {W : World} {b : Nat} {tk : Int} {us : Nat → Int} (h : Ctr W b tk us) (t : Int) : Ctr (W.setCell ⟨b, 0, none⟩ (.int .i64 t)) b t us := by
  unfold Ctr at h ⊢
  simp only [World.setCell, Array.getElem?_modify, ↓reduceIte, h, Option.map_some]
  simp
theorem Ctr.setu {W : World} {b : Nat} {tk : Int} {us : Nat → Int} (h : Ctr W b tk us) (p : Nat) (hp : p < 3) (v : Int) : Ctr (W.setCell ⟨b, 1 + p, none⟩ (.int .i64 v)) b tk (fun q => if q = p then v else us q) := by
  unfold Ctr at h ⊢
  obtain rfl | rfl | rfl : p = 0 ∨ p = 1 ∨ p = 2 := by omega
  all_goals
    simp only [World.setCell, Array.getElem?_modify, ↓reduceIte, h, Option.map_some]
    simp

/-- All but block b lies as it lay. -/
structure But (b : Nat) (W W' : World) : Prop where
  os : W'.os = W.os
  tape : W'.tape = W.tape
  output : W'.output = W.output
  size : W.heap.size ≤ W'.heap.size
  block : ∀ k, k < W.heap.size → k ≠ b → W'.heap[k]? = W.heap[k]?
theorem But.refl (b : Nat) (W : World) : But b W W := ⟨rfl, rfl, rfl, Nat.le_refl _, fun _ _ _ => rfl⟩
theorem But.trans {b : Nat} {A B C : World} (h : But b A B) (k : But b B C) : But b A C :=
  ⟨k.os.trans h.os, k.tape.trans h.tape, k.output.trans h.output, Nat.le_trans h.size k.size, fun i hi hb => (k.block i (Nat.lt_of_lt_of_le hi h.size) hb).trans (h.block i hi hb)⟩
theorem But.alloc {b : Nat} {A B : World} (h : But b A B) (o : Obj) : But b A (B.alloc o) :=
  h.trans ⟨rfl, rfl, rfl, by simp, fun k hk _ => Below.heap_alloc B o k hk⟩
theorem But.set {b : Nat} {A B : World} (h : But b A B) (i : Nat) (v : Value) : But b A (B.setCell ⟨b, i, none⟩ v) :=
  h.trans ⟨rfl, rfl, rfl, by simp [World.setCell], fun k _ hb => Below.heap_setCell B _ _ k hb⟩
theorem But.drew {b : Nat} {A B : World} (h : But b A B) : But b A B.drew := ⟨h.os, h.tape, h.output, h.size, h.block⟩
theorem But.drewN {b : Nat} {A B : World} (h : But b A B) (n : Nat) : But b A (B.drewN n) := ⟨h.os, h.tape, h.output, h.size, h.block⟩
theorem But.below {b B : Nat} {A C : World} (h : But b A C) (hB : B ≤ b) (hs : B ≤ A.heap.size) : Below B A C := ⟨h.os, h.tape, h.output, h.size, fun k hk => h.block k (by omega) (by omega)⟩

set_option maxRecDepth 100000 in
set_option maxHeartbeats 4000000 in
/-- 'add'. -/
theorem add_calls (b : Nat) (tk : Int) (us : Nat → Int) (f0 : Int) (A : Option Addr) (n c : Nat) (p : Nat) (hp : p < 3) (f3 sign : Int) (w : World) (h : Ctr w b tk us) :
    Calls Tryd.prog 65 #[.pointer (some ⟨b, 0, none⟩), .agg #[.int .i64 f0, .slice A n c, .int .i64 (p : Int), .int .i64 f3], .int .i64 sign] w fun e w' => (∃ v, e = .returned v) ∧
      Ctr w' b (wrap64 (tk + sign)) (fun q => if q = p then wrap64 (us p + wrap64 (sign * f3)) else us q) ∧ But b w w' := by
  have hlt := h.lt
  have H := Aside0.mk h
  obtain ⟨hc0, hf0⟩ := h.c0
  have hc0' : (w.alloc (.cells #[.int .i64 f0, .slice A n c, .int .i64 (p : Int), .int .i64 f3] 33)).cell? ⟨b, 0, none⟩ = some (.int .i64 tk) := (World.cell?_alloc_lt w _ _ hlt).trans hc0
  have hf0' : (w.alloc (.cells #[.int .i64 f0, .slice A n c, .int .i64 (p : Int), .int .i64 f3] 33)).frozen? ⟨b, 0, none⟩ = false := (World.frozen?_alloc_old w _ _ (Nat.ne_of_lt hlt)).trans hf0
  clear hc0 hf0 h
  go_enter Tryd.func65, Tryd.ntmps65
  go_upto_region 2 with fail
  have hW : Ctr ((w.setCell ⟨b, 0, none⟩ (.int .i64 (wrap64 (tk + sign)))).alloc (.cells #[.int .i64 f0, .slice A n c, .int .i64 (p : Int), .int .i64 f3] 33)) b (wrap64 (tk + sign)) us := (H.out.set0 _).of (Below.heap_alloc _ _ _ (H.out.set0 _).lt)
  have hT : ((w.setCell ⟨b, 0, none⟩ (.int .i64 (wrap64 (tk + sign)))).alloc (.cells #[.int .i64 f0, .slice A n c, .int .i64 (p : Int), .int .i64 f3] 33)).heap[w.heap.size]? = some (.cells #[.int .i64 f0, .slice A n c, .int .i64 (p : Int), .int .i64 f3] 33 (0, 0)) := by
    have := World.alloc_heap_new (w.setCell ⟨b, 0, none⟩ (.int .i64 (wrap64 (tk + sign)))) (.cells #[.int .i64 f0, .slice A n c, .int .i64 (p : Int), .int .i64 f3] 33 (0, 0))
    rwa [show (w.setCell ⟨b, 0, none⟩ (.int .i64 (wrap64 (tk + sign)))).heap.size = w.heap.size by simp [World.setCell]] at this
  have hB : But b w ((w.setCell ⟨b, 0, none⟩ (.int .i64 (wrap64 (tk + sign)))).alloc (.cells #[.int .i64 f0, .slice A n c, .int .i64 (p : Int), .int .i64 f3] 33)) := ((But.refl b w).set 0 _).alloc _
  generalize (w.setCell ⟨b, 0, none⟩ (.int .i64 (wrap64 (tk + sign)))).alloc (.cells #[.int .i64 f0, .slice A n c, .int .i64 (p : Int), .int .i64 f3] 33) = W1 at hW hT hB ⊢
  obtain ⟨hcu, hfu⟩ := hW.cu p hp
  have ht2 : W1.cell? ⟨w.heap.size, 2, none⟩ = some (.int .i64 (p : Int)) := by simp [World.cell?, hT]
  have ht3 : W1.cell? ⟨w.heap.size, 3, none⟩ = some (.int .i64 f3) := by simp [World.cell?, hT]
  have HW := Aside0.mk hW
  have HB := Aside0.mk hB
  clear hc0' hf0' hT hW hB H
  have hp1 : (p : Int) < 3 := by omega
  have hp0 : (0 : Int) ≤ p := by omega
  go_still_tail 15, rfl
  go_wp2
  simp only [i64_w]
  go_end0
  exact ⟨⟨_, rfl⟩, (HW.out.setu p hp _).of rfl, (HB.out.set _ _).drew⟩

/-- 'takes'. -/
def takesB (tk : Int) (us : Nat → Int) (p : Nat) (f3 : Int) (room : List Int) (workers : Int) : Bool := !(decide (tk ≥ workers) || decide (wrap64 (us p + f3) > rd room (p : Int)))
/-- The counter behind 'takes'. -/
def took (B : Bool) (W : World) (b : Nat) (tk : Int) (us : Nat → Int) (p : Nat) (f3 : Int) : Prop := match B with
  | true => Ctr W b (wrap64 (tk + 1)) (fun q => if q = p then wrap64 (us p + wrap64 (1 * f3)) else us q)
  | false => Ctr W b tk us
set_option maxRecDepth 100000 in
set_option maxHeartbeats 4000000 in
theorem takes_calls (b : Nat) (tk : Int) (us : Nat → Int) (f0 : Int) (A : Option Addr) (n c : Nat) (p : Nat) (hp : p < 3) (f3 : Int) (AR : Option Addr) (cR : Nat) (room : List Int) (hroom : room.length = 3) (workers : Int) (w : World) (h : Ctr w b tk us)
    (hR : Kd.C (Kd.int .i64) w AR room.length room) (hcR : room.length ≤ cR) :
    Calls Tryd.prog 66 #[.pointer (some ⟨b, 0, none⟩), .agg #[.int .i64 f0, .slice A n c, .int .i64 (p : Int), .int .i64 f3], .slice AR room.length cR, .int .i64 workers] w fun e w' => e = .returned (.bool (takesB tk us p f3 room workers)) ∧
      took (takesB tk us p f3 room workers) w' b tk us p f3 ∧ But b w w' := by
  have hlt := h.lt
  have H := Aside0.mk h
  obtain ⟨hc0, hf0⟩ := h.c0
  obtain ⟨hcu, hfu⟩ := h.cu p hp
  have c0 := (World.cell?_alloc_lt w (.cells #[.int .i64 f0, .slice A n c, .int .i64 (p : Int), .int .i64 f3] 33) ⟨b, 0, none⟩ hlt).trans hc0
  have cu := (World.cell?_alloc_lt w (.cells #[.int .i64 f0, .slice A n c, .int .i64 (p : Int), .int .i64 f3] 33) ⟨b, 1 + p, none⟩ hlt).trans hcu
  obtain ⟨ad, ead, hx⟩ := Kd.at_int hR (p : Int) (by omega) (by omega)
  cases ead
  simp only [Int.toNat_natCast] at hx
  have cr := (World.cell?_alloc_lt w (.cells #[.int .i64 f0, .slice A n c, .int .i64 (p : Int), .int .i64 f3] 33) _ (World.block_lt_of_cell? w _ hx)).trans hx
  have ht0 : (w.alloc (.cells #[.int .i64 f0, .slice A n c, .int .i64 (p : Int), .int .i64 f3] 33)).cell? ⟨w.heap.size, 0, none⟩ = some (.int .i64 f0) := World.cell?_alloc_new w _ _ 0
  have ht1 : (w.alloc (.cells #[.int .i64 f0, .slice A n c, .int .i64 (p : Int), .int .i64 f3] 33)).cell? ⟨w.heap.size, 1, none⟩ = some (.slice A n c) := World.cell?_alloc_new w _ _ 1
  have ht2 : (w.alloc (.cells #[.int .i64 f0, .slice A n c, .int .i64 (p : Int), .int .i64 f3] 33)).cell? ⟨w.heap.size, 2, none⟩ = some (.int .i64 (p : Int)) := World.cell?_alloc_new w _ _ 2
  have ht3 : (w.alloc (.cells #[.int .i64 f0, .slice A n c, .int .i64 (p : Int), .int .i64 f3] 33)).cell? ⟨w.heap.size, 3, none⟩ = some (.int .i64 f3) := World.cell?_alloc_new w _ _ 3
  have hW : Ctr (w.alloc (.cells #[.int .i64 f0, .slice A n c, .int .i64 (p : Int), .int .i64 f3] 33)) b tk us := h.of (Below.heap_alloc _ _ _ hlt)
  have HW := Aside0.mk hW
  have HB := Aside0.mk ((But.refl b w).alloc (.cells #[.int .i64 f0, .slice A n c, .int .i64 (p : Int), .int .i64 f3] 33))
  have hp1 : (p : Int) < 3 := by omega
  have hp2 : (p : Int) < (room.length : Int) := by omega
  have hp3 : p < room.length := by omega
  have HA0 := fun W (h : Ctr W b tk us) => add_calls b tk us f0 A n c p hp f3 1 W h
  have HA := Aside0.mk HA0
  clear HA0
  clear hc0 hcu hx hW hf0 hfu h
  by_cases g1 : tk ≥ workers
  · have e1 : decide (workers ≤ tk) = true := decide_eq_true g1
    have eB : takesB tk us p f3 room workers = false := by unfold takesB; simp [g1]
    rw [eB]
    clear eB g1
    go_enter Tryd.func66, Tryd.ntmps66
    go_upto_region 1 with fail
    generalize w.alloc (.cells #[.int .i64 f0, .slice A n c, .int .i64 (p : Int), .int .i64 f3] 33) = W1 at *
    go_quiet (fail)
    go_wp2
    go_ret
    exact ⟨rfl, HW.out.of rfl, HB.out.drewN _⟩
  have e1 : decide (workers ≤ tk) = false := decide_eq_false g1
  by_cases g2 : wrap64 (us p + f3) > rd room (p : Int)
  · have e2 : decide (rd room (p : Int) < wrap64 (us p + f3)) = true := decide_eq_true g2
    have eB : takesB tk us p f3 room workers = false := by unfold takesB; simp [g2]
    rw [eB]
    clear eB g1 g2
    go_enter Tryd.func66, Tryd.ntmps66
    go_upto_region 1 with fail
    generalize w.alloc (.cells #[.int .i64 f0, .slice A n c, .int .i64 (p : Int), .int .i64 f3] 33) = W1 at *
    go_quiet (fail)
    go_wp2
    go_ret
    exact ⟨rfl, HW.out.of rfl, HB.out.drewN _⟩
  have e2 : decide (rd room (p : Int) < wrap64 (us p + f3)) = false := decide_eq_false g2
  have eB : takesB tk us p f3 room workers = true := by unfold takesB; simp [g1, g2]
  rw [eB]
  clear eB g1 g2
  go_enter Tryd.func66, Tryd.ntmps66
  go_upto_region 1 with fail
  generalize w.alloc (.cells #[.int .i64 f0, .slice A n c, .int .i64 (p : Int), .int .i64 f3] 33) = W1 at *
  go_quiet (fail)
  go_wp2_with (go_at_call 65; refine (HA.out (W1.drewN _) (HW.out.of rfl)).mono ?_; rintro e w' ⟨⟨v, rfl⟩, hC, hBut⟩; have HC := Aside0.mk hC; have HBt := Aside0.mk hBut; clear hC hBut)
  go_ret
  exact ⟨rfl, HC.out, (HB.out.drewN _).trans HBt.out⟩
end Go.Proofs.YtaoeopeempmnnaaDoor

/-
  startsIn: the walk over the events.
-/
namespace Go.Proofs.YtaoeopeempmnnaaDoor
open Go Go.RowKit Go.Proofs.YtaoeopeempmnnaaDoor.M Go.Proofs.YtaoeopeempmnnaaDoorW.PrintWords Go.Proofs.YtaoeopeempmnnaaDoorW.PrintLast Go.Proofs.YtaoeopeempmnnaaDoorW.PrintMore Go.Proofs.YtaoeopeempmnnaaDoor.PA
set_option linter.unusedSimpArgs false
set_option linter.unusedVariables false

structure St where
  tk : Int
  us : Nat → Int
  dn : Nat
def poolOf (g : List Tk) (i : Nat) : Nat := (rd_T33 g (i : Int)).f2.toNat
def unitsOf (g : List Tk) (i : Nat) : Int := (rd_T33 g (i : Int)).f3
def stepM (g : List Tk) (ms : List Nat) (room : List Int) (workers : Int) (st : St) (e : Ev) : Option St :=
  if e.over = true then some ⟨wrap64 (st.tk + -1), (fun q => if q = poolOf g e.task.toNat then wrap64 (st.us (poolOf g e.task.toNat) + wrap64 (-1 * unitsOf g e.task.toNat)) else st.us q), st.dn ||| 2 ^ e.task.toNat⟩
  else if subB (ms.getD e.task.toNat 0) st.dn = true then
    (if takesB st.tk st.us (poolOf g e.task.toNat) (unitsOf g e.task.toNat) room workers = true then
      some ⟨wrap64 (st.tk + 1), (fun q => if q = poolOf g e.task.toNat then wrap64 (st.us (poolOf g e.task.toNat) + wrap64 (1 * unitsOf g e.task.toNat)) else st.us q), st.dn⟩ else none)
  else none
def runM (g : List Tk) (ms : List Nat) (room : List Int) (workers : Int) : List Ev → St → Option St
  | [], st => some st
  | e :: l, st => (stepM g ms room workers st e).bind (runM g ms room workers l)
theorem runM_append (g : List Tk) (ms : List Nat) (room : List Int) (workers : Int) : ∀ (l m : List Ev) (st : St), runM g ms room workers (l ++ m) st = (runM g ms room workers l st).bind (runM g ms room workers m)
  | [], m, st => rfl
  | e :: l, m, st => by
    simp only [List.cons_append, runM]
    cases stepM g ms room workers st e with
    | none => rfl
    | some s => simp only [Option.bind_some]; exact runM_append g ms room workers l m s

def st0 : St := ⟨0, fun _ => 0, 0⟩
def evsM (g : List Tk) (start : List Int) : List Ev := sorted (evs (fun i => rd start (i : Int)) (fun i => (rd_T33 g (i : Int)).f0) g.length)
def startsM (g : List Tk) (room : List Int) (workers : Int) (start : List Int) : Option (List Nat × List Nat) :=
  match placeM g room workers with
  | none => none
  | some r => if start.length = g.length then (if (start.all fun a => withinB a 0 200) = true then (runM g r.1 room workers (evsM g start) st0).bind fun _ => some r else none) else none

theorem needsGo_ok (n : Nat) : ∀ (l : List Tk) (ms : List Nat), needsGo n l = some ms → ∀ t ∈ l, withinB t.f0 1 20 = true ∧ withinB t.f2 0 2 = true ∧ withinB t.f3 1 4 = true
  | [], _, _ => by simp
  | a :: l, ms, h => by
    simp only [needsGo] at h
    cases hm : taskOk n a with
    | none => rw [hm] at h; cases h
    | some m =>
      rw [hm] at h
      obtain ⟨ms', h', rfl⟩ := Option.map_eq_some_iff.1 h
      intro x hx
      rcases List.mem_cons.1 hx with rfl | hx
      · unfold taskOk at hm
        cases hs : setM n x.f1 with
        | none => rw [hs] at hm; cases hm
        | some m' =>
          rw [hs] at hm
          simp only at hm
          split at hm
          · assumption
          cases hm
      exact needsGo_ok n l ms' h' x hx

/-- What is known of a graph that is let in. -/
structure Known (g : List Tk) (ms ord : List Nat) : Prop where
  h8 : g.length ≤ 8
  hms : ms.length = g.length
  hm : ∀ m ∈ ms, m < 2 ^ g.length
  ht : ∀ i, i < g.length → 1 ≤ (rd_T33 g (i : Int)).f0 ∧ (rd_T33 g (i : Int)).f0 ≤ 20 ∧ 0 ≤ (rd_T33 g (i : Int)).f2 ∧ (rd_T33 g (i : Int)).f2 ≤ 2 ∧ 1 ≤ (rd_T33 g (i : Int)).f3 ∧ (rd_T33 g (i : Int)).f3 ≤ 4
  hn : needsM g = some ms
theorem withinB_iff (a b c : Int) : withinB a b c = true ↔ b ≤ a ∧ a ≤ c := by unfold withinB; simp
theorem placeM_known {g : List Tk} {room : List Int} {workers : Int} {ms ord : List Nat} (h : placeM g room workers = some (ms, ord)) : Known g ms ord ∧ roomB room = true ∧ withinB workers 1 4 = true := by
  unfold placeM at h
  split at h
  · rename_i hc
    simp only [Bool.and_eq_true] at hc
    unfold gOf at h
    cases hN : needsM g with
    | none => rw [hN] at h; cases h
    | some ms' =>
      rw [hN] at h
      simp only at h
      split at h
      · cases h
        obtain ⟨h8, hl, _⟩ := needsM_spec hN
        refine ⟨⟨h8, hl, needsM_lt2 hN, fun i hi => ?_, hN⟩, hc⟩
        have hgo : needsGo g.length g = some ms := by
          unfold needsM at hN
          split at hN
          · cases hN
          exact hN
        have hmem : rd_T33 g (i : Int) ∈ g := by
          unfold rd_T33
          rw [Int.toNat_natCast, List.getD_eq_getElem?_getD, List.getElem?_eq_getElem hi]
          exact List.getElem_mem hi
        obtain ⟨a, b, c⟩ := needsGo_ok _ _ _ hgo _ hmem
        rw [withinB_iff] at a b c
        exact ⟨a.1, a.2, b.1, b.2, c.1, c.2⟩
      cases h
  cases h

theorem EvAt.but {w w' : World} {A : Option Addr} {l : List Ev} {b : Nat} (h : EvAt w A l) (hA : ∀ ad, A = some ad → b < ad.block) (hb : But b w w') : EvAt w' A l := by
  intro j x hx
  obtain ⟨q, hq, h0, h1, h2⟩ := h j x hx
  have hl : q < w.heap.size := World.block_lt_of_cell? w _ h0
  have hne : b < q := hA _ hq
  have he : w'.heap[q]? = w.heap[q]? := hb.block q hl (by omega)
  have hc : ∀ i, w'.cell? ⟨q, i, none⟩ = w.cell? ⟨q, i, none⟩ := fun i => World.cell?_of_block he
  exact ⟨q, hq, (hc _).trans h0, (hc _).trans h1, (hc _).trans h2⟩
end Go.Proofs.YtaoeopeempmnnaaDoor

/-
  startsIn: the walk.
-/
namespace Go.Proofs.YtaoeopeempmnnaaDoor
open Go Go.RowKit Go.Proofs.YtaoeopeempmnnaaDoor.M Go.Proofs.YtaoeopeempmnnaaDoorW.PrintWords Go.Proofs.YtaoeopeempmnnaaDoorW.PrintLast Go.Proofs.YtaoeopeempmnnaaDoorW.PrintMore Go.Proofs.YtaoeopeempmnnaaDoor.PA
set_option linter.unusedSimpArgs false
set_option linter.unusedVariables false

theorem IsG.at2 {W : World} {b : Nat} {g : List Tk} {ms ord : List Nat} (h : IsG W b g ms ord) : ∃ A0 c0, W.cell? ⟨b, 1, none⟩ = some (.slice A0 (ints ms).length c0) ∧ Kd.C (Kd.int .u16) W A0 (ints ms).length (ints ms) := by
  obtain ⟨A0, c0, A1, c1, A2, c2, v3, v4, hh, h1, h2, h3, h4, h5, h6⟩ := h
  exact ⟨A1, c1, by simp [World.cell?, hh], h4⟩

set_option maxHeartbeats 8000000 in
set_option maxRecDepth 100000 in
theorem startsIn_calls (A : Option Addr) (c : Nat) (g : List Tk) (AR : Option Addr) (cR : Nat) (room : List Int) (workers : Int) (AS : Option Addr) (cS : Nat) (start : List Int) (w : World) (hT : Tab w) (hr : Kd.C k33 w A g.length g) (hc : g.length ≤ c) (hR : Kd.C (Kd.int .i64) w AR room.length room) (hcR : room.length ≤ cR) (hS : Kd.C (Kd.int .i64) w AS start.length start) (hcS : start.length ≤ cS) :
    Calls Tryd.prog 42 #[.slice A g.length c, .slice AR room.length cR, .int .i64 workers, .slice AS start.length cS] w fun e w' => GraphPost w w' g e (startsM g room workers start) ∧ Below w.heap.size w w' := by
  have HP := Aside0.mk (placeIn_calls A c g AR cR room workers w hT hr hc hR hcR)
  have HR := Aside0.mk hR
  have HS := Aside0.mk hS
  have HmS := Aside0.mk (Kd.C_max hS)
  clear hT hr hR hS
  unfold startsM
  cases hP : placeM g room workers with
  | none =>
    rw [hP] at HP
    clear hP
    go_enter Tryd.func42, Tryd.ntmps42
    go_wp2_with (go_at_call 64; refine HP.out.mono ?_; rintro e w1 ⟨rfl, hb⟩; have HB := Aside0.mk hb; clear hb)
    go_ret2
    exact ⟨rfl, HB.out⟩
  | some r =>
    obtain ⟨ms, ord⟩ := r
    rw [hP] at HP
    obtain ⟨hK, hroom, hwork⟩ := placeM_known hP
    clear hP
    have hr3 : room.length = 3 := by unfold roomB at hroom; simp at hroom; exact hroom.1
    have HK := Aside0.mk hK
    have h8 := hK.h8
    have Hr3 := Aside0.mk hr3
    clear hroom hwork hK hr3
    simp only
    by_cases hl : start.length = g.length
    · rw [if_pos hl]
      have e1 : (((start.length : Nat) : Int) != ((g.length : Nat) : Int)) = false := by rw [hl]; simp
      cases hall : (start.all fun a => withinB a 0 200) with
      | false =>
        rw [show (if false = true then (runM g ms room workers (evsM g start) st0).bind fun _ => some (ms, ord) else none) = none by simp]
        have HA := Aside0.mk hall
        clear hall
        go_enter Tryd.func42, Tryd.ntmps42
        go_wp2_with (go_at_call 64; refine HP.out.mono ?_; rintro e w1 ⟨⟨b, rfl, hle, hg⟩, hb⟩; have HB := Aside0.mk hb; have HI := Aside0.mk hg; clear hb hg hle)
        go_loopw [13, 37] (fun v13 v37 wr => ∃ i : Nat, v37 = .int .i64 (i : Int) ∧ Aside0 (i ≤ start.length) ∧ Aside0 (((start.take i).all fun a => withinB a 0 200) = true) ∧ wr = w1) (fun _ v37 _ => start.length - (intOf v37).toNat)
        case atStart => exact ⟨0, rfl, ⟨Nat.zero_le _⟩, ⟨by simp⟩, rfl⟩
        case round =>
          obtain ⟨i, rfl, Hi, HT, rfl⟩ := hrel
          by_cases hlt : i < start.length
          · obtain ⟨ad, ead, hx⟩ := Kd.at_int HS.out (i : Int) (by omega) (by omega)
            cases ead
            replace hx := (HB.out.cell (World.block_lt_of_cell? w _ hx)).trans hx
            simp only [Int.toNat_natCast] at hx
            have hE : start.take (i + 1) = start.take i ++ [rd start (i : Int)] := by
              rw [List.take_succ_eq_append_getElem hlt]; simp [rd, List.getElem?_eq_getElem hlt]
            have HE := Aside0.mk hE
            clear hE
            generalize rd start (i : Int) = a at hx HE
            cases hw : withinB a 0 200 with
            | false =>
              have hwc := fun W => within_calls a 0 200 W
              rw [hw] at hwc
              have HW := Aside0.mk hwc
              clear hwc hw
              go_wp2_with (go_at_call 45; refine (HW.out _).mono ?_; rintro e w2 ⟨rfl, rfl⟩)
              go_ret2
              exact ⟨rfl, HB.out⟩
            | true =>
              have hwc := fun W => within_calls a 0 200 W
              rw [hw] at hwc
              have HW := Aside0.mk hwc
              have HWt := Aside0.mk hw
              clear hwc hw
              go_wp2_with (go_at_call 45; refine (HW.out _).mono ?_; rintro e w2 ⟨rfl, rfl⟩)
              go_roundw
              case rel => exact ⟨i + 1, by go_num, ⟨by omega⟩, ⟨by rw [HE.out, List.all_append, HT.out]; simp [HWt.out]⟩, by first | rfl | trivial⟩
              case measure => simp [intOf]; omega
          have := HA.out
          rw [← List.take_length (l := start), show start.length = i by have := Hi.out; omega, HT.out] at this
          cases this
      | true =>
        rw [show (if true = true then (runM g ms room workers (evsM g start) st0).bind fun _ => some (ms, ord) else none) = (runM g ms room workers (evsM g start) st0).bind fun _ => some (ms, ord) by simp]
        have hws : ∀ i, i < g.length → withinB (rd start (i : Int)) 0 200 = true := fun i hi => by
          refine List.all_eq_true.1 hall _ ?_
          unfold rd
          rw [Int.toNat_natCast, List.getD_eq_getElem?_getD, List.getElem?_eq_getElem (by omega)]
          exact List.getElem_mem _
        have hWr : ∀ i, i < g.length → wrap64 (rd start (i : Int) + (rd_T33 g (i : Int)).f0) = rd start (i : Int) + (rd_T33 g (i : Int)).f0 := fun i hi => by
          have h1 := (withinB_iff _ _ _).1 (hws i hi)
          have h2 := HK.out.ht i hi
          unfold wrap64
          omega
        have HWs := Aside0.mk hws
        have HWr := Aside0.mk hWr
        have Hl := Aside0.mk hl
        have hSl : start.length ≤ 8 := by omega
        clear hall hws hWr hl
        obtain ⟨res, hres⟩ : ∃ res, ((runM g ms room workers (evsM g start) st0).bind fun _ => some (ms, ord)) = res := ⟨_, rfl⟩
        rw [hres]
        have HRes := Aside0.mk hres
        clear hres
        go_enter Tryd.func42, Tryd.ntmps42
        go_wp2_with (go_at_call 64; refine HP.out.mono ?_; rintro e w1 ⟨⟨b, rfl, hle, hg⟩, hb⟩; have HB := Aside0.mk hb; have HI := Aside0.mk hg; have HLe := Aside0.mk hle; clear hb hg hle)
        go_loopw [13, 37] (fun v13 v37 wr => ∃ i : Nat, v37 = .int .i64 (i : Int) ∧ Aside0 (i ≤ start.length) ∧ wr = w1) (fun _ v37 _ => start.length - (intOf v37).toNat)
        case atStart => exact ⟨0, rfl, ⟨Nat.zero_le _⟩, rfl⟩
        case round =>
          obtain ⟨i, rfl, Hi, hww⟩ := hrel
          have hww := hww.symm
          subst hww
          by_cases hlt : i < start.length
          · obtain ⟨ad, ead, hx⟩ := Kd.at_int HS.out (i : Int) (by omega) (by omega)
            cases ead
            replace hx := (HB.out.cell (World.block_lt_of_cell? w _ hx)).trans hx
            simp only [Int.toNat_natCast] at hx
            have hw := HWs.out i (by have := Hl.out; omega)
            generalize rd start (i : Int) = a at hx hw
            have hwc := fun W => within_calls a 0 200 W
            rw [hw] at hwc
            have HW := Aside0.mk hwc
            clear hwc hw
            go_wp2_with (go_at_call 45; refine (HW.out _).mono ?_; rintro e w2 ⟨rfl, rfl⟩)
            go_roundw
            case rel => exact ⟨i + 1, by go_num, ⟨by omega⟩, by first | rfl | trivial⟩
            case measure => simp [intOf]; omega
          go_wp2_with (go_at_call 53; refine (changes_calls b g ms ord _ cS start _ (HI.out.below (below_alloc (Below.refl _ _) _)) h8 Hl.out (Kd.C_alloc (Kd.C_below HS.out HB.out) _) hcS HWr.out).mono ?_; rintro e w2 ⟨A2, c2, rfl, hEv, hA2, hb2⟩; have HEv := Aside0.mk hEv; have HA2 := Aside0.mk hA2; have HB2 := Aside0.mk hb2; clear hEv hA2 hb2)
          have hlen : (evsM g start).length = 2 * g.length := (sorted_perm _).length_eq.trans (evs_length _ _ _)
          have hC0 : Ctr w2 w1.heap.size 0 (fun _ => 0) := (HB2.out.block _ (by simp)).trans (World.alloc_heap_new w1 (.cells #[.int .i64 0, .int .i64 0, .int .i64 0, .int .i64 0] 81 (0, 0)))
          have HLen := Aside0.mk hlen
          have HC0 := Aside0.mk hC0
          have HB12 := Aside0.mk (below_alloc (Below.refl w1.heap.size w1) (.cells #[.int .i64 0, .int .i64 0, .int .i64 0, .int .i64 0] 81) |>.trans (HB2.out.mono (by simp)))
          clear hlen hC0
          go_loopw [15, 17, 18, 49] (fun v15 v17 v18 v49 wr => ∃ (j : Nat) (st : St), v49 = .int .i64 (j : Int) ∧ v15 = .int .u16 (st.dn : Int) ∧ Aside0 (j ≤ 2 * g.length) ∧ Aside0 (runM g ms room workers ((evsM g start).take j) st0 = some st) ∧ Aside0 (st.dn < 256) ∧ Aside0 (Ctr wr w1.heap.size st.tk st.us) ∧ Aside0 (But w1.heap.size w2 wr)) (fun _ _ _ v49 _ => 2 * g.length - (intOf v49).toNat)
          case atStart => exact ⟨0, st0, rfl, rfl, ⟨Nat.zero_le _⟩, ⟨rfl⟩, ⟨by decide⟩, HC0, ⟨But.refl _ _⟩⟩
          case round =>
            clear HC0
            obtain ⟨j, st, rfl, rfl, Hj, HRun, Hdn, HC, HBt⟩ := hrel
            by_cases hlt : j < 2 * g.length
            · have hEv := HEv.out.but (fun ad e => by have := HA2.out ad e; simp at this; omega) HBt.out
              have hj : j < (evsM g start).length := by rw [HLen.out]; exact hlt
              obtain ⟨q, hq, hx0, hx1, hx2⟩ := hEv j _ (List.getElem?_eq_getElem hj)
              cases hq
              obtain ⟨i0, hi0, hcase⟩ := mem_evs.1 ((sorted_perm _).mem_iff.1 (List.getElem_mem hj))
              have hrun : runM g ms room workers ((evsM g start).take (j + 1)) st0 = stepM g ms room workers st (evsM g start)[j] := by
                rw [List.take_succ_eq_append_getElem hj, runM_append, HRun.out, Option.bind_some, runM]
                cases stepM g ms room workers st (evsM g start)[j] <;> rfl
              have hall : runM g ms room workers (evsM g start) st0 = (stepM g ms room workers st (evsM g start)[j]).bind (runM g ms room workers ((evsM g start).drop (j + 1))) := by
                rw [← hrun, ← runM_append, List.take_append_drop]
              have htask : (evsM g start)[j].task = (i0 : Int) := by rcases hcase with h | h <;> exact congrArg Ev.task h
              generalize (evsM g start)[j] = ev at hx0 hx1 hx2 hrun hall htask
              clear hcase hEv
              obtain ⟨tm, task, over⟩ := ev
              simp only at htask hx0 hx1 hx2
              subst htask
              have HB1r := Aside0.mk (HB12.out.trans (HBt.out.below (Nat.le_refl _) HB12.out.size))
              obtain ⟨A0, c0, hc0, hle0, hCt⟩ := (HI.out.below HB1r.out).at
              obtain ⟨ad1, A1, c1, ead1, ht0, ht1, ht2, ht3, hl1, hi1⟩ := at_T33 hCt (i0 : Int) (by omega) (by omega)
              cases ead1
              have hkt := HK.out.ht i0 hi0
              have hp : (rd_T33 g (i0 : Int)).f2 = ((poolOf g i0 : Nat) : Int) := by unfold poolOf; omega
              have hp3 : poolOf g i0 < 3 := by unfold poolOf; omega
              have hu : (rd_T33 g (i0 : Int)).f3 = unitsOf g i0 := rfl
              rw [hp] at ht2
              rw [hu] at ht3
              simp only [Int.toNat_natCast] at ht0 ht1 ht2 ht3
              unfold stepM at hrun hall
              simp only [Int.toNat_natCast] at hrun hall
              clear hkt hp hu hl1 hi1 hCt
              generalize (rd_T33 g (i0 : Int)).f0 = f0 at ht0
              generalize (rd_T33 g (i0 : Int)).f1.length = n1 at ht1
              generalize poolOf g i0 = p at *
              generalize unitsOf g i0 = f3 at *
              have HRn := Aside0.mk hrun
              have HAl := Aside0.mk hall
              clear hrun hall
              have o1 : ∃ o, o = (Obj.cells #[.int .i64 tm, .int .i64 (i0 : Int), .bool over] 66 (0, 0)) := ⟨_, rfl⟩
              go_upto_region 15 with fail
              have hl3 : ∀ {a : Addr} {v : Value}, wr.cell? a = some v → (wr.alloc (.cells #[.int .i64 tm, .int .i64 (i0 : Int), .bool over] 66)).cell? a = some v := fun h => (World.cell?_alloc_lt wr _ _ (World.block_lt_of_cell? wr _ h)).trans h
              have he0 : (wr.alloc (.cells #[.int .i64 tm, .int .i64 (i0 : Int), .bool over] 66)).cell? ⟨wr.heap.size, 0, none⟩ = some (.int .i64 tm) := World.cell?_alloc_new wr _ _ 0
              have he1 : (wr.alloc (.cells #[.int .i64 tm, .int .i64 (i0 : Int), .bool over] 66)).cell? ⟨wr.heap.size, 1, none⟩ = some (.int .i64 (i0 : Int)) := World.cell?_alloc_new wr _ _ 1
              have he2 : (wr.alloc (.cells #[.int .i64 tm, .int .i64 (i0 : Int), .bool over] 66)).cell? ⟨wr.heap.size, 2, none⟩ = some (.bool over) := World.cell?_alloc_new wr _ _ 2
              replace hc0 := hl3 hc0
              replace ht0 := hl3 ht0
              replace ht1 := hl3 ht1
              replace ht2 := hl3 ht2
              replace ht3 := hl3 ht3
              have hBut := HBt.out.alloc (.cells #[.int .i64 tm, .int .i64 (i0 : Int), .bool over] 66)
              have hCtr := HC.out.of (Below.heap_alloc wr (.cells #[.int .i64 tm, .int .i64 (i0 : Int), .bool over] 66) _ HC.out.lt)
              have hIs := ((HI.out.below HB1r.out).below (below_alloc (Below.refl _ _) (.cells #[.int .i64 tm, .int .i64 (i0 : Int), .bool over] 66)))
              have hE0 : w1.heap.size < wr.heap.size := HC.out.lt
              clear hl3 hx0 hx1 hx2 HBt HC HB1r o1
              generalize wr.alloc (.cells #[.int .i64 tm, .int .i64 (i0 : Int), .bool over] 66) = W3 at hc0 ht0 ht1 ht2 ht3 he0 he1 he2 hBut hCtr hIs ⊢
              have hE : w1.heap.size < wr.heap.size ∧ wr.heap.size < W3.heap.size := ⟨hE0, World.block_lt_of_cell? W3 ⟨_, 0, none⟩ he0⟩
              generalize wr.heap.size = E at he0 he1 he2 hE ⊢
              have HE := Aside0.mk hE
              clear hE hE0
              have HBt := Aside0.mk hBut
              have HC := Aside0.mk hCtr
              have HIs := Aside0.mk hIs
              clear hBut hCtr hIs
              have hl4 : ∀ {a : Addr} {v : Value}, W3.cell? a = some v → (W3.alloc (.cells #[.int .i64 0, .slice none 0 0, .int .i64 0, .int .i64 0] 33)).cell? a = some v := fun h => (World.cell?_alloc_lt W3 _ _ (World.block_lt_of_cell? W3 _ h)).trans h
              have zc0 := hl4 hc0
              have zt0 := hl4 ht0
              have zt1 := hl4 ht1
              have zt2 := hl4 ht2
              have zt3 := hl4 ht3
              have ze1 := hl4 he1
              clear hl4
              refine wp_normal_only ?_
              go_region
              have hl5 : ∀ {a : Addr} {v : Value}, W3.cell? a = some v → (W3.alloc (.cells #[.int .i64 f0, .slice A1 n1 c1, .int .i64 (p : Int), .int .i64 f3] 33)).drew.cell? a = some v := fun h => (World.cell?_alloc_lt W3 _ _ (World.block_lt_of_cell? W3 _ h)).trans h
              have y1 := hl5 he1
              have y2 := hl5 he2
              have z0 : (W3.alloc (.cells #[.int .i64 f0, .slice A1 n1 c1, .int .i64 (p : Int), .int .i64 f3] 33)).drew.cell? ⟨W3.heap.size, 0, none⟩ = some (.int .i64 f0) := World.cell?_alloc_new W3 _ _ 0
              have z1 : (W3.alloc (.cells #[.int .i64 f0, .slice A1 n1 c1, .int .i64 (p : Int), .int .i64 f3] 33)).drew.cell? ⟨W3.heap.size, 1, none⟩ = some (.slice A1 n1 c1) := World.cell?_alloc_new W3 _ _ 1
              have z2 : (W3.alloc (.cells #[.int .i64 f0, .slice A1 n1 c1, .int .i64 (p : Int), .int .i64 f3] 33)).drew.cell? ⟨W3.heap.size, 2, none⟩ = some (.int .i64 (p : Int)) := World.cell?_alloc_new W3 _ _ 2
              have z3 : (W3.alloc (.cells #[.int .i64 f0, .slice A1 n1 c1, .int .i64 (p : Int), .int .i64 f3] 33)).drew.cell? ⟨W3.heap.size, 3, none⟩ = some (.int .i64 f3) := World.cell?_alloc_new W3 _ _ 3
              have hBut := (HBt.out.alloc (.cells #[.int .i64 f0, .slice A1 n1 c1, .int .i64 (p : Int), .int .i64 f3] 33)).drew
              have hCtr : Ctr (W3.alloc (.cells #[.int .i64 f0, .slice A1 n1 c1, .int .i64 (p : Int), .int .i64 f3] 33)).drew w1.heap.size st.tk st.us := HC.out.of (Below.heap_alloc W3 _ _ HC.out.lt)
              have hIs := HIs.out.below (below_drew1 (below_alloc (Below.refl _ _) (.cells #[.int .i64 f0, .slice A1 n1 c1, .int .i64 (p : Int), .int .i64 f3] 33)))
              have hE5 : w1.heap.size < E ∧ E < (W3.alloc (.cells #[.int .i64 f0, .slice A1 n1 c1, .int .i64 (p : Int), .int .i64 f3] 33)).drew.heap.size := ⟨HE.out.1, by have := HE.out.2; simp; omega⟩
              clear hl5 he0 he1 he2 ht0 ht1 ht2 ht3 hc0 zc0 zt0 zt1 zt2 zt3 ze1 HBt HC HIs HE
              generalize (W3.alloc (.cells #[.int .i64 f0, .slice A1 n1 c1, .int .i64 (p : Int), .int .i64 f3] 33)).drew = W5 at y1 y2 z0 z1 z2 z3 hBut hCtr hIs hE5 ⊢
              generalize W3.heap.size = T at z0 z1 z2 z3 ⊢
              have HBt := Aside0.mk hBut
              have HC := Aside0.mk hCtr
              have HE := Aside0.mk hE5
              have HIs := Aside0.mk hIs
              clear hBut hCtr hIs hE5
              have hi16 : i0 < 8 := by omega
              cases over with
              | true =>
                have HAdd := Aside0.mk (add_calls w1.heap.size st.tk st.us f0 A1 n1 c1 p hp3 f3 (-1) W5 HC.out)
                have hwc := fun W => with_calls st.dn i0 (by have := Hdn.out; omega) (by omega) W
                have hdn : st.dn ||| 2 ^ i0 < 256 := Nat.or_lt_two_pow (n := 8) Hdn.out (show 2 ^ i0 < 2 ^ 8 from Nat.pow_lt_pow_right (by decide) hi16)
                have HDn := Aside0.mk hdn
                have HWc := Aside0.mk hwc
                clear hwc hdn
                go_wp2_with (first
                  | (go_at_call 65; refine HAdd.out.mono ?_; rintro e W6 ⟨⟨v, rfl⟩, hC6, hB6⟩; have y1' := (World.cell?_of_block (a := ⟨E, 1, none⟩) (hB6.block E HE.out.2 (by have := HE.out.1; omega))).trans y1; have HC6 := Aside0.mk hC6; have HB6 := Aside0.mk hB6; clear hC6 hB6)
                  | (go_at_call 55; refine (HWc.out _).mono ?_; rintro e W7 ⟨rfl, rfl⟩))
                go_roundw
                case rel => exact ⟨j + 1, ⟨wrap64 (st.tk + -1), _, st.dn ||| 2 ^ i0⟩, by go_num, rfl, ⟨by omega⟩, ⟨HRn.out.trans (if_pos (by first | trivial | rfl))⟩, HDn, HC6, ⟨HBt.out.trans HB6.out⟩⟩
                case measure => simp [intOf]; omega
              | false =>
                obtain ⟨An, cn, hn0, hnC⟩ := HIs.out.at2
                obtain ⟨adn, eadn, hnx⟩ := Kd.at_int hnC (i0 : Int) (by omega) (by rw [ints_length, HK.out.hms]; omega)
                cases eadn
                rw [rd_ints] at hnx
                simp only [Int.toNat_natCast] at hnx
                have hin : i0 < (ints ms).length := by rw [ints_length, HK.out.hms]; omega
                have hmi : ms.getD i0 0 < 256 := by
                  rw [List.getD_eq_getElem?_getD, List.getElem?_eq_getElem (show i0 < ms.length by rw [HK.out.hms]; omega)]
                  exact pow8 h8 (HK.out.hm _ (List.getElem_mem _))
                have hand := andNot_zero (ms.getD i0 0) st.dn (by omega) (by have := Hdn.out; omega)
                generalize ms.getD i0 0 = mi at hnx hmi hand HRn HAl
                clear hnC hmi
                cases hsub : subB mi st.dn with
                | false =>
                  rw [hsub] at hand
                  have g1 : (Go.bits .andNot .u16 (mi : Int) (st.dn : Int) != 0) = true := by unfold bne; rw [hand]; rfl
                  have hno : res = none := by
                    rw [← HRes.out, HAl.out, if_neg (by simp), if_neg (by rw [hsub]; simp)]
                    rfl
                  have HNo := Aside0.mk hno
                  clear hno hand hsub
                  go_upto_region 19 with fail
                  go_quiet (fail)
                  go_wp2
                  go_ret2
                  rw [HNo.out]
                  exact ⟨rfl, below_step HB.out (pw_below_drewN (HB12.out.trans (HBt.out.below (Nat.le_refl _) HB12.out.size)) _)⟩
                | true =>
                  rw [hsub] at hand
                  have g1 : (Go.bits .andNot .u16 (mi : Int) (st.dn : Int) != 0) = false := by unfold bne; rw [hand]; rfl
                  have htk := takes_calls w1.heap.size st.tk st.us f0 A1 n1 c1 p hp3 f3 AR cR room Hr3.out workers W5.drew (HC.out.of rfl) (Kd.C_drew (Kd.C_below HR.out (below_step HB.out (HB12.out.trans (HBt.out.below (Nat.le_refl _) HB12.out.size))))) hcR
                  have hr1 : runM g ms room workers ((evsM g start).take (j + 1)) st0 = (if takesB st.tk st.us p f3 room workers = true then some ⟨wrap64 (st.tk + 1), (fun q => if q = p then wrap64 (st.us p + wrap64 (1 * f3)) else st.us q), st.dn⟩ else none) := by
                    rw [HRn.out, if_neg (by simp), if_pos hsub]
                  have hr2 : takesB st.tk st.us p f3 room workers = false → res = none := fun h => by
                    rw [← HRes.out, HAl.out, if_neg (by simp), if_pos hsub, if_neg (by rw [h]; simp)]
                    rfl
                  have HR1 := Aside0.mk hr1
                  have HR2 := Aside0.mk hr2
                  clear hr1 hr2 hsub hand
                  cases hB : takesB st.tk st.us p f3 room workers with
                  | false =>
                    rw [hB] at htk
                    have HNo := Aside0.mk (HR2.out hB)
                    have HTk := Aside0.mk htk
                    clear htk hB
                    go_upto_region 19 with fail
                    refine wp_region_still_tail 15 rfl (by kernel_rfl) ?_
                    simp only [List.take_succ_cons, List.take_zero, List.drop_succ_cons, List.drop_zero]
                    repeat still_step
                    refine wpStill_nil ?_
                    go_wp2_with (go_at_call 66; refine HTk.out.mono ?_; rintro e W6 ⟨rfl, hC6, hB6⟩; have HC6 := Aside0.mk hC6; have HB6 := Aside0.mk hB6; clear hC6 hB6)
                    go_ret2
                    rw [HNo.out]
                    exact ⟨rfl, below_step HB.out (HB12.out.trans ((HBt.out.drew.trans HB6.out).below (Nat.le_refl _) HB12.out.size))⟩
                  | true =>
                    rw [hB] at htk
                    have HRt := Aside0.mk (HR1.out.trans (if_pos hB))
                    have HTk := Aside0.mk htk
                    clear htk hB
                    go_upto_region 19 with fail
                    refine wp_region_still_tail 15 rfl (by kernel_rfl) ?_
                    simp only [List.take_succ_cons, List.take_zero, List.drop_succ_cons, List.drop_zero]
                    repeat still_step
                    refine wpStill_nil ?_
                    go_wp2_with (go_at_call 66; refine HTk.out.mono ?_; rintro e W6 ⟨rfl, hC6, hB6⟩; have HC6 := Aside0.mk hC6; have HB6 := Aside0.mk hB6; clear hC6 hB6)
                    go_roundw
                    case rel => exact ⟨j + 1, ⟨wrap64 (st.tk + 1), _, st.dn⟩, by go_num, rfl, ⟨by omega⟩, HRt, Hdn, HC6, ⟨HBt.out.drew.trans HB6.out⟩⟩
                    case measure => simp [intOf]; omega
            have hres : res = some (ms, ord) := by
              have h1 := HRun.out
              rw [show j = (evsM g start).length by rw [HLen.out]; have := Hj.out; omega, List.take_length] at h1
              rw [← HRes.out, h1]
              rfl
            subst hres
            have HB1r := Aside0.mk (HB12.out.trans (HBt.out.below (Nat.le_refl _) HB12.out.size))
            go_wp2
            go_ret2
            exact ⟨⟨b, rfl, HLe.out, HI.out.below HB1r.out⟩, below_step HB.out HB1r.out⟩
    rw [if_neg hl]
    have e1 : (((start.length : Nat) : Int) != ((g.length : Nat) : Int)) = true := by rw [bne_iff_ne]; omega
    go_enter Tryd.func42, Tryd.ntmps42
    go_wp2_with (go_at_call 64; refine HP.out.mono ?_; rintro e w1 ⟨⟨b, rfl, hle, hg⟩, hb⟩; have HB := Aside0.mk hb; clear hb hg hle)
    go_ret2
    exact ⟨rfl, HB.out⟩
end Go.Proofs.YtaoeopeempmnnaaDoor

/-
  ValidStarts, end, EndTime: their contracts.
-/
namespace Go.Proofs.YtaoeopeempmnnaaDoor
open Go Go.RowKit Go.Proofs.YtaoeopeempmnnaaDoor.M Go.Proofs.YtaoeopeempmnnaaDoorW.PrintWords Go.Proofs.YtaoeopeempmnnaaDoorW.PrintLast Go.Proofs.YtaoeopeempmnnaaDoorW.PrintMore Go.Proofs.YtaoeopeempmnnaaDoor.PA
attribute [local go_sem] max2_int min2_int max_two min_two
set_option linter.unusedSimpArgs false
set_option linter.unusedVariables false

def endGo (g : List Tk) (start : List Int) : Nat → Int
  | 0 => 0
  | i + 1 => max (endGo g start i) (wrap64 (rd start (i : Int) + (rd_T33 g (i : Int)).f0))
def endM (g : List Tk) (start : List Int) : Int := endGo g start start.length

set_option maxHeartbeats 4000000 in
set_option maxRecDepth 100000 in
theorem end_calls (b : Nat) (g : List Tk) (ms ord : List Nat) (AS : Option Addr) (cS : Nat) (start : List Int) (w : World) (h : IsG w b g ms ord) (hl : start.length = g.length) (h8 : start.length ≤ 8)
    (hS : Kd.C (Kd.int .i64) w AS start.length start) (hcS : start.length ≤ cS) :
    Calls Tryd.prog 47 #[.pointer (some ⟨b, 0, none⟩), .slice AS start.length cS] w fun e w' => e = .returned (.int .i64 (endM g start)) ∧ w' = w := by
  have HS := Aside0.mk hS
  have Hl := Aside0.mk hl
  obtain ⟨A0, c0, hc0, hle0, hCt⟩ := h.at
  have HCt := Aside0.mk hCt
  clear hS hl hCt h
  go_enter Tryd.func47, Tryd.ntmps47
  go_wp2
  go_loopw [5, 10] (fun v5 v10 wr => ∃ i : Nat, v10 = .int .i64 (i : Int) ∧ v5 = .int .i64 (endGo g start i) ∧ Aside0 (i ≤ start.length) ∧ wr = w) (fun _ v10 _ => start.length - (intOf v10).toNat)
  case atStart => exact ⟨0, rfl, rfl, ⟨Nat.zero_le _⟩, rfl⟩
  case round =>
    obtain ⟨i, rfl, rfl, Hi, hww⟩ := hrel
    have hww := hww.symm
    subst hww
    by_cases hlt : i < start.length
    · obtain ⟨ad, ead, hx⟩ := Kd.at_int HS.out (i : Int) (by omega) (by omega)
      cases ead
      obtain ⟨ad1, A1, c1, ead1, hx0, _⟩ := at_T33 HCt.out (i : Int) (by omega) (by have := Hl.out; omega)
      cases ead1
      simp only [Int.toNat_natCast] at hx hx0
      have hlg : i < g.length := by have := Hl.out; omega
      have hE : endGo g start (i + 1) = max (endGo g start i) (wrap64 (rd start (i : Int) + (rd_T33 g (i : Int)).f0)) := rfl
      have HE := Aside0.mk hE
      clear hE
      generalize endGo g start i = m at HE ⊢
      generalize rd start (i : Int) = a at hx HE
      generalize (rd_T33 g (i : Int)).f0 = t at hx0 HE
      go_wp2
      go_roundw
      case rel => exact ⟨i + 1, by go_num, by rw [HE.out]; congr 1; generalize wrap64 (a + t) = x; split <;> omega, ⟨by omega⟩, by first | rfl | trivial⟩
      case measure => simp [intOf]; omega
    obtain rfl : i = start.length := by have := Hi.out; omega
    go_wp2
    go_ret
    exact ⟨rfl, rfl⟩

theorem startsM_len {g : List Tk} {room : List Int} {workers : Int} {start : List Int} {ms ord : List Nat} (h : startsM g room workers start = some (ms, ord)) : start.length = g.length ∧ start.length ≤ 8 := by
  unfold startsM at h
  cases hP : placeM g room workers with
  | none => rw [hP] at h; cases h
  | some r =>
    obtain ⟨ms', ord'⟩ := r
    rw [hP] at h
    have h8 := (placeM_known hP).1.h8
    simp only at h
    split at h
    · rename_i hl
      exact ⟨hl, by omega⟩
    cases h

def endTimeM (g : List Tk) (room : List Int) (workers : Int) (start : List Int) : Int := if (startsM g room workers start).isSome = true then endM g start else -1

theorem endTime_calls (A : Option Addr) (c : Nat) (g : List Tk) (AR : Option Addr) (cR : Nat) (room : List Int) (workers : Int) (AS : Option Addr) (cS : Nat) (start : List Int) (w : World) (hT : Tab w) (hr : Kd.C k33 w A g.length g) (hc : g.length ≤ c) (hR : Kd.C (Kd.int .i64) w AR room.length room) (hcR : room.length ≤ cR) (hS : Kd.C (Kd.int .i64) w AS start.length start) (hcS : start.length ≤ cS) :
    Calls Tryd.prog 23 #[.slice A g.length c, .slice AR room.length cR, .int .i64 workers, .slice AS start.length cS] w fun e w' => e = .returned (.int .i64 (endTimeM g room workers start)) ∧ Below w.heap.size w w' := by
  have HS := Aside0.mk (startsIn_calls A c g AR cR room workers AS cS start w hT hr hc hR hcR hS hcS)
  have HSt := Aside0.mk hS
  clear hT hr hR hS
  unfold endTimeM
  cases hs : startsM g room workers start with
  | none =>
    rw [hs] at HS
    clear hs
    rw [Option.isSome_none, if_neg (show ¬ (false = true) by decide)]
    go_enter Tryd.func23, Tryd.ntmps23
    go_wp2_with (go_at_call 42; refine HS.out.mono ?_; rintro e w1 ⟨rfl, hb⟩; have HB := Aside0.mk hb; clear hb)
    go_ret
    exact ⟨rfl, HB.out⟩
  | some r =>
    obtain ⟨ms, ord⟩ := r
    rw [hs] at HS
    have HL := Aside0.mk (startsM_len hs)
    clear hs
    rw [Option.isSome_some, if_pos (Eq.refl true)]
    generalize hE : endM g start = em
    have HE := Aside0.mk hE
    clear hE
    go_enter Tryd.func23, Tryd.ntmps23
    go_wp2_with (first
      | (go_at_call 42; refine HS.out.mono ?_; rintro e w1 ⟨⟨b, rfl, hle, hg⟩, hb⟩; have HB := Aside0.mk hb; have HI := Aside0.mk hg; clear hb hg hle)
      | (go_at_call 47; refine (end_calls b g ms ord AS cS start _ HI.out HL.out.1 HL.out.2 (Kd.C_below HSt.out HB.out) hcS).mono ?_; rintro e w2 ⟨rfl, hw⟩; have hw := hw.symm; subst hw))
    go_ret
    exact ⟨by first | rfl | (rw [HE.out]; rfl), HB.out⟩
end Go.Proofs.YtaoeopeempmnnaaDoor

/-
  PLAIN: the specification's printed functions, fourth part: valid beginnings, the end.
-/
namespace Go.Proofs.YtaoeopeempmnnaaDoor
open Go Go.RowKit Go.Proofs.YtaoeopeempmnnaaDoorW.PrintWords Go.Proofs.YtaoeopeempmnnaaDoorW.PrintLast Go.Proofs.YtaoeopeempmnnaaDoorW.PrintMore Go.Proofs.YtaoeopeempmnnaaDoor.PA
set_option linter.unusedSimpArgs false
set_option linter.unusedVariables false

def atB (g : List Tk) (room : List Int) (workers : Int) (start : List Int) (i : Nat) : Bool :=
  decide (((runL g start (rd start (i : Int)) g.length 0).length : Int) ≤ workers) && vrB g room (runL g start (rd start (i : Int)) g.length 0)
def goodB (g : List Tk) (room : List Int) (workers : Int) (start : List Int) (i : Nat) : Bool :=
  ((rd_T33 g (i : Int)).f1.all fun a => decide (rd start a + (rd_T33 g a).f0 ≤ rd start (i : Int))) && atB g room workers start i

theorem starts_l1 (g : List Tk) (room : List Int) (workers : Int) (start : List Int) (h8 : g.length ≤ 8) (hs : start.length = g.length) (hW : ∀ i, i < g.length → wrap64 (rd start (i : Int) + (rd_T33 g (i : Int)).f0) = rd start (i : Int) + (rd_T33 g (i : Int)).f0)
    (hgo : (gOf g).isSome = true) (hb : ∀ t ∈ g, t.f1.length < 4611686018427387904) (hro : roomB room = true) (hr : room.length = 3) (hu : ∀ i, i < g.length → 1 ≤ (rd_T33 g (i : Int)).f3 ∧ (rd_T33 g (i : Int)).f3 ≤ 4) (hne : ∀ i, i < g.length → ∀ a ∈ (rd_T33 g (i : Int)).f1, 0 ≤ a ∧ a < (g.length : Int))
    (i : Nat) (hi : i < g.length) (v : Bool) (hv : Gives (fun k => spec_validStarts.l0 k g room workers start ((i + 1 : Nat) : Int)) v) :
    ∀ r j, j + r = (rd_T33 g (i : Int)).f1.length → Gives (fun k => spec_validStarts.l1 k g room workers start (i : Int) (j : Int)) ((((rd_T33 g (i : Int)).f1.drop j).all fun a => decide (rd start a + (rd_T33 g a).f0 ≤ rd start (i : Int))) && (atB g room workers start i && v))
  | 0, j, h => by
    rw [List.drop_eq_nil_of_le (by omega), List.all_nil, Bool.true_and]
    refine Gives.of_succ (G := fun k => (spec_runningAt.f k g start (rd start (i : Int))).bind fun t183 => if (t183.length : Int) > workers then some false else ((spec_validRunning.f k g room t183).bind fun t186 => if t186 = true then spec_validStarts.l0 k g room workers start ((i + 1 : Nat) : Int) else some false)) (fun k => by
      rw [spec_validStarts.l1, if_pos (by omega), if_pos (by omega), if_neg (by omega), if_pos (by omega), wrap_succ i (by omega)]) ?_
    refine Gives.bind (F := fun k => spec_runningAt.f k g start (rd start (i : Int))) (G := fun k t183 => if (t183.length : Int) > workers then some false else ((spec_validRunning.f k g room t183).bind fun t186 => if t186 = true then spec_validStarts.l0 k g room workers start ((i + 1 : Nat) : Int) else some false)) (runningAt_gives g start _ h8 hs hW) ?_
    rw [ints_length]
    unfold atB
    have hlen := runL_len g start (rd start (i : Int)) g.length 0
    have hasc := runL_asc g start (rd start (i : Int)) g.length 0
    have hlt : ∀ x ∈ runL g start (rd start (i : Int)) g.length 0, x < g.length := fun x hx => by have := runL_lt hx; omega
    generalize runL g start (rd start (i : Int)) g.length 0 = now at *
    by_cases c : (now.length : Int) > workers
    · rw [show decide ((now.length : Int) ≤ workers) = false by simp; exact c]
      simp only [if_pos c, Bool.false_and]
      exact Gives.const _
    rw [show decide ((now.length : Int) ≤ workers) = true by simp; omega]
    simp only [if_neg c, Bool.true_and]
    refine Gives.bind (F := fun k => spec_validRunning.f k g room (ints now)) (G := fun k t186 => if t186 = true then spec_validStarts.l0 k g room workers start ((i + 1 : Nat) : Int) else some false) (validRunning_gives g room hgo hb h8 hro hr now (by omega) hasc hlt hu) ?_
    cases vrB g room now with
    | false => exact Gives.const _
    | true => simp only [if_true, Bool.true_and]; exact hv
  | r + 1, j, h => by
    have hmem := hne i hi (rd (rd_T33 g (i : Int)).f1 (j : Int)) (by
      simp only [rd, Int.toNat_natCast, List.getD_eq_getElem?_getD, List.getElem?_eq_getElem (show j < (rd_T33 g (i : Int)).f1.length by omega)]
      exact List.getElem_mem _)
    have hbi := hb _ (rdT_mem g i hi)
    rw [drop_rd _ j (by omega), List.all_cons]
    have IH := starts_l1 g room workers start h8 hs hW hgo hb hro hr hu hne i hi v hv r (j + 1) (by omega)
    have hw : wrap64 (rd start (rd (rd_T33 g (i : Int)).f1 (j : Int)) + (rd_T33 g (rd (rd_T33 g (i : Int)).f1 (j : Int))).f0) = rd start (rd (rd_T33 g (i : Int)).f1 (j : Int)) + (rd_T33 g (rd (rd_T33 g (i : Int)).f1 (j : Int))).f0 := by
      have := hW (rd (rd_T33 g (i : Int)).f1 (j : Int)).toNat (by omega)
      rwa [show (((rd (rd_T33 g (i : Int)).f1 (j : Int)).toNat : Nat) : Int) = rd (rd_T33 g (i : Int)).f1 (j : Int) by omega] at this
    refine Gives.of_succ (G := fun k => if rd start (rd (rd_T33 g (i : Int)).f1 (j : Int)) + (rd_T33 g (rd (rd_T33 g (i : Int)).f1 (j : Int))).f0 > rd start (i : Int) then some false else spec_validStarts.l1 k g room workers start (i : Int) ((j + 1 : Nat) : Int)) (fun k => by
      rw [spec_validStarts.l1, if_pos (by omega), if_pos (by omega), if_pos (by omega), if_pos (by omega), if_pos hmem.1, if_pos (by omega), if_pos hmem.2, if_pos (by omega), hw, wrap_succ j (by omega)]) ?_
    by_cases c : rd start (rd (rd_T33 g (i : Int)).f1 (j : Int)) + (rd_T33 g (rd (rd_T33 g (i : Int)).f1 (j : Int))).f0 > rd start (i : Int)
    · rw [show decide (rd start (rd (rd_T33 g (i : Int)).f1 (j : Int)) + (rd_T33 g (rd (rd_T33 g (i : Int)).f1 (j : Int))).f0 ≤ rd start (i : Int)) = false by simp; exact c]
      simp only [if_pos c, Bool.false_and]
      exact Gives.const _
    rw [show decide (rd start (rd (rd_T33 g (i : Int)).f1 (j : Int)) + (rd_T33 g (rd (rd_T33 g (i : Int)).f1 (j : Int))).f0 ≤ rd start (i : Int)) = true by simp; omega]
    simp only [if_neg c, Bool.true_and]
    exact IH

theorem starts_l0 (g : List Tk) (room : List Int) (workers : Int) (start : List Int) (h8 : g.length ≤ 8) (hs : start.length = g.length) (hW : ∀ i, i < g.length → wrap64 (rd start (i : Int) + (rd_T33 g (i : Int)).f0) = rd start (i : Int) + (rd_T33 g (i : Int)).f0)
    (hgo : (gOf g).isSome = true) (hb : ∀ t ∈ g, t.f1.length < 4611686018427387904) (hro : roomB room = true) (hr : room.length = 3) (hu : ∀ i, i < g.length → 1 ≤ (rd_T33 g (i : Int)).f3 ∧ (rd_T33 g (i : Int)).f3 ≤ 4) (hne : ∀ i, i < g.length → ∀ a ∈ (rd_T33 g (i : Int)).f1, 0 ≤ a ∧ a < (g.length : Int)) :
    ∀ r i, i + r = g.length → Gives (fun k => spec_validStarts.l0 k g room workers start (i : Int)) ((List.range' i r).all (goodB g room workers start))
  | 0, i, h => by
    refine Gives.of_succ (G := fun _ => some true) (fun k => by rw [spec_validStarts.l0, if_neg (by omega)]) ?_
    exact Gives.const _
  | r + 1, i, h => by
    refine Gives.of_succ (G := fun k => spec_validStarts.l1 k g room workers start (i : Int) ((0 : Nat) : Int)) (fun k => by rw [spec_validStarts.l0, if_pos (by omega)]; rfl) ?_
    have := starts_l1 g room workers start h8 hs hW hgo hb hro hr hu hne i (by omega) _ (starts_l0 g room workers start h8 hs hW hgo hb hro hr hu hne r (i + 1) (by omega)) (rd_T33 g (i : Int)).f1.length 0 (by omega)
    rw [List.range'_succ, List.all_cons, goodB, Bool.and_assoc]
    exact this

def specB (g : List Tk) (room : List Int) (workers : Int) (start : List Int) : Bool :=
  (gOf g).isSome && (roomB room && (withinB workers 1 4 && (decide (start.length = g.length) && ((start.all fun a => withinB a 0 200) && (List.range' 0 g.length).all (goodB g room workers start)))))

theorem known_of {g : List Tk} {room : List Int} {workers : Int} (h1 : (gOf g).isSome = true) (h2 : roomB room = true) (h3 : withinB workers 1 4 = true) : ∃ ms ord, placeM g room workers = some (ms, ord) ∧ Known g ms ord := by
  obtain ⟨r, hr⟩ := Option.isSome_iff_exists.1 h1
  obtain ⟨ms, ord⟩ := r
  have hp : placeM g room workers = some (ms, ord) := by unfold placeM; rw [h2, h3, hr]; rfl
  exact ⟨ms, ord, hp, (placeM_known hp).1⟩
theorem within_start {start : List Int} (h : (start.all fun a => withinB a 0 200) = true) (i : Nat) (hi : i < start.length) : 0 ≤ rd start (i : Int) ∧ rd start (i : Int) ≤ 200 := by
  refine (withinB_iff' _ _ _).1 (List.all_eq_true.1 h _ ?_)
  unfold rd
  rw [Int.toNat_natCast, List.getD_eq_getElem?_getD, List.getElem?_eq_getElem hi]
  exact List.getElem_mem _

theorem specStarts_gives (g : List Tk) (room : List Int) (workers : Int) (start : List Int) (hg : g.length < 4611686018427387904) (hb : ∀ t ∈ g, t.f1.length < 4611686018427387904) (hrl : room.length < 4611686018427387904) (hsl : start.length < 4611686018427387904) :
    Gives (fun k => spec_validStarts.f k g room workers start) (specB g room workers start) := by
  have hj : Gives (fun k => spec_validStarts.j0 k g room workers start true) false := Gives.of_succ (G := fun _ => some false) (fun k => by rw [spec_validStarts.j0, if_pos (Eq.refl true)]) (Gives.const _)
  refine Gives.bind (F := fun k => spec_validGraph.f k g) (G := fun k t172 => if t172 = true then ((spec_validRoom.f k room).bind fun t173 => if t173 = true then ((spec_inRange.f workers 1 4).bind fun t174 => if t174 = true then (if (start.length : Int) = (g.length : Int) then ((spec_allIn.f k start 0 200).bind fun t175 => spec_validStarts.j0 k g room workers start (!t175)) else spec_validStarts.j0 k g room workers start true) else spec_validStarts.j0 k g room workers start true) else spec_validStarts.j0 k g room workers start true) else spec_validStarts.j0 k g room workers start true) (validGraph_gives g hg hb) ?_
  unfold specB
  cases c1 : (gOf g).isSome with
  | false => simp only [Bool.false_eq_true, if_false, Bool.false_and]; exact hj
  | true =>
    simp only [if_true, Bool.true_and]
    refine Gives.bind (F := fun k => spec_validRoom.f k room) (G := fun k t173 => if t173 = true then ((spec_inRange.f workers 1 4).bind fun t174 => if t174 = true then (if (start.length : Int) = (g.length : Int) then ((spec_allIn.f k start 0 200).bind fun t175 => spec_validStarts.j0 k g room workers start (!t175)) else spec_validStarts.j0 k g room workers start true) else spec_validStarts.j0 k g room workers start true) else spec_validStarts.j0 k g room workers start true) (validRoom_gives room hrl) ?_
    cases c2 : roomB room with
    | false => simp only [Bool.false_eq_true, if_false, Bool.false_and]; exact hj
    | true =>
      simp only [if_true, Bool.true_and, inRange_f, Option.bind_some]
      cases c3 : withinB workers 1 4 with
      | false => simp only [Bool.false_eq_true, if_false, Bool.false_and]; exact hj
      | true =>
        simp only [if_true, Bool.true_and]
        by_cases c4 : start.length = g.length
        · rw [show decide (start.length = g.length) = true by simp [c4], Bool.true_and]
          refine Gives.of_eq (G := fun k => (spec_allIn.f k start 0 200).bind fun t175 => spec_validStarts.j0 k g room workers start (!t175)) (fun k => by rw [if_pos (by omega)]) ?_
          refine Gives.bind (F := fun k => spec_allIn.f k start 0 200) (G := fun k t175 => spec_validStarts.j0 k g room workers start (!t175)) (allIn_gives start 0 200 hsl) ?_
          cases c5 : (start.all fun a => withinB a 0 200) with
          | false => rw [Bool.false_and]; exact hj
          | true =>
            rw [Bool.true_and]
            obtain ⟨ms, ord, hp, hK⟩ := known_of c1 c2 c3
            refine Gives.of_succ (G := fun k => spec_validStarts.l0 k g room workers start ((0 : Nat) : Int)) (fun k => by rw [spec_validStarts.j0]; rfl) ?_
            have hr3 : room.length = 3 := by unfold roomB at c2; simp at c2; exact c2.1
            refine starts_l0 g room workers start hK.h8 c4 (fun i hi => ?_) c1 hb c2 hr3 (fun i hi => ⟨(hK.ht i hi).2.2.2.2.1, (hK.ht i hi).2.2.2.2.2⟩) (fun i hi a ha => setM_nonneg (needsM_at hK.hn i hi) a ha) g.length 0 (by omega)
            have h1 := within_start c5 i (by omega)
            have h2 := hK.ht i hi
            unfold wrap64
            omega
        rw [show decide (start.length = g.length) = false by simp [c4], Bool.false_and]
        refine Gives.of_eq (G := fun k => spec_validStarts.j0 k g room workers start true) (fun k => by rw [if_neg (by omega)]) hj
end Go.Proofs.YtaoeopeempmnnaaDoor

/-
  PLAIN: the walk over the events answers as the specification does.
-/
namespace Go.Proofs.YtaoeopeempmnnaaDoor
open Go Go.RowKit Go.Proofs.YtaoeopeempmnnaaDoor.M Go.Proofs.YtaoeopeempmnnaaDoorW.PrintWords Go.Proofs.YtaoeopeempmnnaaDoorW.PrintLast Go.Proofs.YtaoeopeempmnnaaDoorW.PrintMore Go.Proofs.YtaoeopeempmnnaaDoor.PA
set_option linter.unusedSimpArgs false
set_option linter.unusedVariables false

theorem sumL_abs (f : Ev → Int) (c : Int) (hc : 0 ≤ c) : ∀ A : List Ev, (∀ x ∈ A, -c ≤ f x ∧ f x ≤ c) → -(c * A.length) ≤ sumL A f ∧ sumL A f ≤ c * A.length
  | [], _ => by simp [sumL]
  | a :: A, h => by
    have h1 := h a (by simp)
    have h2 := sumL_abs f c hc A (fun x hx => h x (by simp [hx]))
    have e : c * (((a :: A).length : Nat) : Int) = c * (A.length : Int) + c := by
      simp only [List.length_cons]
      rw [show ((A.length + 1 : Nat) : Int) = (A.length : Int) + 1 by omega, Int.mul_add, Int.mul_one]
    rw [e]
    simp only [sumL]
    omega

section
variable (g : List Tk) (ms ord : List Nat) (room : List Int) (workers : Int) (start : List Int)
abbrev sF (i : Nat) : Int := rd start (i : Int)
abbrev tF (i : Nat) : Int := (rd_T33 g (i : Int)).f0
abbrev uF (i : Nat) : Int := (rd_T33 g (i : Int)).f3
abbrev pF (i : Nat) : Int := (rd_T33 g (i : Int)).f2
abbrev needF (i k : Nat) : Prop := (k : Int) ∈ (rd_T33 g (i : Int)).f1
abbrev rmF (p : Int) : Int := rd room p

structure Inv (A : List Ev) (st : St) : Prop where
  tk : st.tk = sumL A sgn
  us : ∀ p : Nat, p < 3 → st.us p = sumL A (fun x => if pF g x.task.toNat = (p : Int) then sgn x * uF g x.task.toNat else 0)
  dn : ∀ k : Nat, st.dn.testBit k = true ↔ ∃ x ∈ A, x.over = true ∧ x.task = (k : Int)

theorem inv_step (hK : Known g ms ord) (A : List Ev) (hA : ∀ x ∈ A, ∃ i : Nat, i < g.length ∧ x.task = (i : Int)) (hlen : A.length ≤ 16) (st : St) (hI : Inv g A st) (e : Ev) (i : Nat) (hi : i < g.length) (he : e.task = (i : Int)) :
    ((stepM g ms room workers st e).isSome = true ↔ okE g.length (uF g) (pF g) (needF g) (rmF room) workers A e) ∧ ∀ st', stepM g ms room workers st e = some st' → Inv g (A ++ [e]) st' := by
  have hti := hK.ht i hi
  have hpi : pF g i = ((poolOf g i : Nat) : Int) := by unfold poolOf; show (rd_T33 g (i : Int)).f2 = _; omega
  have hp3 : poolOf g i < 3 := by unfold poolOf; omega
  have hin : e.task.toNat = i := by omega
  have htk := sumL_abs sgn 1 (by decide) A (fun x _ => by unfold sgn; split <;> omega)
  have hus : ∀ p : Nat, -(4 * (A.length : Int)) ≤ sumL A (fun x => if pF g x.task.toNat = (p : Int) then sgn x * uF g x.task.toNat else 0) ∧ sumL A (fun x => if pF g x.task.toNat = (p : Int) then sgn x * uF g x.task.toNat else 0) ≤ 4 * (A.length : Int) := fun p =>
    sumL_abs _ 4 (by decide) A (fun x hx => by
      obtain ⟨j, hj, hxj⟩ := hA x hx
      have htj := hK.ht j hj
      rw [show x.task.toNat = j by omega]
      by_cases hc : pF g j = (p : Int)
      · rw [if_pos hc]
        have hsg : sgn x = 1 ∨ sgn x = -1 := by unfold sgn; split <;> simp
        rcases hsg with h | h
        · rw [h]
          show -4 ≤ 1 * (rd_T33 g (j : Int)).f3 ∧ 1 * (rd_T33 g (j : Int)).f3 ≤ 4
          omega
        rw [h]
        show -4 ≤ -1 * (rd_T33 g (j : Int)).f3 ∧ -1 * (rd_T33 g (j : Int)).f3 ≤ 4
        omega
      rw [if_neg hc]; omega)
  have hsub : subB (ms.getD i 0) st.dn = true ↔ ∀ k : Nat, k < g.length → needF g i k → ∃ x ∈ A, x.over = true ∧ x.task = (k : Int) := by
    rw [subB_iff]
    have hm := needsM_at hK.hn i hi
    constructor
    · intro h k hk hn
      exact (hI.dn k).1 (h k ((setM_bits hm k).2 hn))
    intro h k hk
    have hn := (setM_bits hm k).1 hk
    exact (hI.dn k).2 (h k (by have := (setM_nonneg hm _ hn).2; omega) hn)
  have hts : takesB st.tk st.us (poolOf g i) (unitsOf g i) room workers = true ↔ sumL A sgn < workers ∧ sumL A (fun x => if pF g x.task.toNat = pF g i then sgn x * uF g x.task.toNat else 0) + uF g i ≤ rmF room (pF g i) := by
    unfold takesB unitsOf
    rw [hI.tk, hI.us _ hp3, hpi]
    have h2 := hus (poolOf g i)
    rw [show wrap64 (sumL A (fun x => if pF g x.task.toNat = ((poolOf g i : Nat) : Int) then sgn x * uF g x.task.toNat else 0) + (rd_T33 g (i : Int)).f3) = sumL A (fun x => if pF g x.task.toNat = ((poolOf g i : Nat) : Int) then sgn x * uF g x.task.toNat else 0) + (rd_T33 g (i : Int)).f3 by unfold wrap64; omega]
    simp only [Bool.not_eq_true', Bool.or_eq_false_iff, decide_eq_false_iff_not]
    constructor
    · rintro ⟨a, b⟩; exact ⟨by omega, by show _ + (rd_T33 g (i : Int)).f3 ≤ rd room _; omega⟩
    rintro ⟨a, b⟩
    have b' : sumL A (fun x => if pF g x.task.toNat = ((poolOf g i : Nat) : Int) then sgn x * uF g x.task.toNat else 0) + (rd_T33 g (i : Int)).f3 ≤ rd room ((poolOf g i : Nat) : Int) := b
    exact ⟨by omega, by omega⟩
  -- what a step leaves
  have hnew : ∀ (c : Int) (dn' : Nat), sgn e = c → (c = 1 ∨ c = -1) → (∀ k : Nat, dn'.testBit k = true ↔ ∃ x ∈ A ++ [e], x.over = true ∧ x.task = (k : Int)) →
      Inv g (A ++ [e]) ⟨wrap64 (st.tk + c), (fun q => if q = poolOf g i then wrap64 (st.us (poolOf g i) + wrap64 (c * unitsOf g i)) else st.us q), dn'⟩ := by
    intro c dn' hc hcc hdn
    refine ⟨?_, fun p hp => ?_, hdn⟩
    · show wrap64 (st.tk + c) = _
      rw [sumL_append, hI.tk]
      simp only [sumL, hc, Int.add_zero]
      unfold wrap64; omega
    show (if p = poolOf g i then wrap64 (st.us (poolOf g i) + wrap64 (c * unitsOf g i)) else st.us p) = _
    rw [sumL_append, hI.us _ hp3]
    simp only [sumL, hin, Int.add_zero, hpi, hc]
    have h2 := hus (poolOf g i)
    by_cases e1 : p = poolOf g i
    · subst e1
      rw [if_pos rfl, if_pos rfl]
      show wrap64 (_ + wrap64 (c * (rd_T33 g (i : Int)).f3)) = _ + c * (rd_T33 g (i : Int)).f3
      generalize sumL A (fun x => if pF g x.task.toNat = ((poolOf g i : Nat) : Int) then sgn x * uF g x.task.toNat else 0) = S at h2 ⊢
      rcases hcc with rfl | rfl <;> (unfold wrap64; omega)
    rw [if_neg e1, if_neg (by omega), hI.us p hp, Int.add_zero]
  unfold stepM
  rw [hin]
  cases ho : e.over with
  | true =>
    rw [if_pos rfl]
    refine ⟨⟨fun _ => .inl ho, fun _ => rfl⟩, fun st' hst => ?_⟩
    cases hst
    refine hnew (-1) _ (by unfold sgn; rw [ho]; rfl) (.inr rfl) (fun k => ?_)
    rw [Nat.testBit_or, Nat.testBit_two_pow, Bool.or_eq_true, hI.dn k, decide_eq_true_iff]
    constructor
    · rintro (⟨x, hx, h⟩ | h)
      · exact ⟨x, by simp [hx], h⟩
      exact ⟨e, by simp, ho, by omega⟩
    rintro ⟨x, hx, h1, h2⟩
    rcases List.mem_append.1 hx with hx | hx
    · exact .inl ⟨x, hx, h1, h2⟩
    simp at hx; subst hx; exact .inr (by omega)
  | false =>
    rw [if_neg (by simp)]
    have hok : okE g.length (uF g) (pF g) (needF g) (rmF room) workers A e ↔ subB (ms.getD i 0) st.dn = true ∧ takesB st.tk st.us (poolOf g i) (unitsOf g i) room workers = true := by
      unfold okE
      rw [ho, hin, hsub, hts]
      simp
    rw [hok]
    by_cases c1 : subB (ms.getD i 0) st.dn = true
    · rw [if_pos c1]
      by_cases c2 : takesB st.tk st.us (poolOf g i) (unitsOf g i) room workers = true
      · rw [if_pos c2]
        refine ⟨⟨fun _ => ⟨c1, c2⟩, fun _ => rfl⟩, fun st' hst => ?_⟩
        cases hst
        refine hnew 1 _ (by unfold sgn; rw [ho]; rfl) (.inl rfl) (fun k => ?_)
        rw [hI.dn k]
        constructor
        · rintro ⟨x, hx, h⟩; exact ⟨x, by simp [hx], h⟩
        rintro ⟨x, hx, h1, h2⟩
        rcases List.mem_append.1 hx with hx | hx
        · exact ⟨x, hx, h1, h2⟩
        simp at hx; subst hx; rw [ho] at h1; cases h1
      rw [if_neg c2]
      exact ⟨⟨fun h => (by cases h), fun h => absurd h.2 c2⟩, fun st' hst => (by cases hst)⟩
    rw [if_neg c1]
    exact ⟨⟨fun h => (by cases h), fun h => absurd h.1 c1⟩, fun st' hst => (by cases hst)⟩

theorem run_ok (hK : Known g ms ord) : ∀ (B A : List Ev) (st : St), (∀ x ∈ A ++ B, ∃ i : Nat, i < g.length ∧ x.task = (i : Int)) → (A ++ B).length ≤ 16 → Inv g A st →
    ((runM g ms room workers B st).isSome = true ↔ ∀ A' e B', B = A' ++ e :: B' → okE g.length (uF g) (pF g) (needF g) (rmF room) workers (A ++ A') e)
  | [], A, st, _, _, _ => by
    refine ⟨fun _ A' e B' h => ?_, fun _ => rfl⟩
    have := congrArg List.length h
    simp at this
  | e :: B, A, st, hA, hl, hI => by
    obtain ⟨i, hi, he⟩ := hA e (by simp)
    obtain ⟨h1, h2⟩ := inv_step g ms ord room workers hK A (fun x hx => hA x (by simp [hx])) (by simp at hl; omega) st hI e i hi he
    simp only [runM]
    have hsplit : (∀ A' e' B', e :: B = A' ++ e' :: B' → okE g.length (uF g) (pF g) (needF g) (rmF room) workers (A ++ A') e') ↔
        okE g.length (uF g) (pF g) (needF g) (rmF room) workers A e ∧ ∀ A' e' B', B = A' ++ e' :: B' → okE g.length (uF g) (pF g) (needF g) (rmF room) workers ((A ++ [e]) ++ A') e' := by
      constructor
      · intro h
        refine ⟨?_, fun A' e' B' hB => ?_⟩
        · have := h [] e B rfl
          rwa [List.append_nil] at this
        have := h (e :: A') e' B' (by rw [hB]; rfl)
        rwa [List.append_assoc]
      rintro ⟨ha, hb⟩ A' e' B' hB
      cases A' with
      | nil => cases hB; rwa [List.append_nil]
      | cons a A' =>
        cases hB
        have := hb A' e' B' rfl
        rwa [List.append_assoc] at this
    rw [hsplit, ← h1]
    cases hst : stepM g ms room workers st e with
    | none => simp
    | some st' =>
      simp only [Option.bind_some, Option.isSome_some, true_and]
      have hA' : (A ++ [e]) ++ B = A ++ e :: B := by simp
      exact run_ok hK B (A ++ [e]) st' (by rw [hA']; exact hA) (by rw [hA']; exact hl) (h2 st' hst)
end
end Go.Proofs.YtaoeopeempmnnaaDoor

/-
  PLAIN: impl.ValidStarts' model is the specification's: startsM answers as specB; the end.
-/
namespace Go.Proofs.YtaoeopeempmnnaaDoor
open Go Go.RowKit Go.Proofs.YtaoeopeempmnnaaDoor.M Go.Proofs.YtaoeopeempmnnaaDoorW.PrintWords Go.Proofs.YtaoeopeempmnnaaDoorW.PrintLast Go.Proofs.YtaoeopeempmnnaaDoorW.PrintMore Go.Proofs.YtaoeopeempmnnaaDoor.PA
set_option linter.unusedSimpArgs false
set_option linter.unusedVariables false

theorem runL_snoc (g : List Tk) (start : List Int) (now : Int) (r : Nat) : runL g start now (r + 1) 0 = runL g start now r 0 ++ (if rd start (r : Int) ≤ now ∧ now < rd start (r : Int) + (rd_T33 g (r : Int)).f0 then [r] else []) := by
  unfold runL
  rw [List.range'_1_concat, List.filter_append, Nat.zero_add]
  congr 1
  by_cases c : rd start (r : Int) ≤ now ∧ now < rd start (r : Int) + (rd_T33 g (r : Int)).f0
  · rw [if_pos c, List.filter_cons_of_pos (by simp [c])]; rfl
  rw [if_neg c, List.filter_cons_of_neg (by simpa using c)]; rfl
theorem usedL_append (g : List Tk) (p : Int) : ∀ l m : List Nat, usedL g p (l ++ m) = usedL g p l + usedL g p m
  | [], m => by simp [usedL]
  | a :: l, m => by simp only [List.cons_append, usedL, usedL_append g p l m]; omega

open Classical in
theorem len_sm (g : List Tk) (start : List Int) (now : Int) : ∀ r, ((runL g start now r 0).length : Int) = sm r (fun j => if at_ (sF start) (tF g) now j then 1 else 0)
  | 0 => rfl
  | r + 1 => by
    rw [runL_snoc, List.length_append, sm, ← len_sm g start now r]
    by_cases c : rd start (r : Int) ≤ now ∧ now < rd start (r : Int) + (rd_T33 g (r : Int)).f0
    · rw [if_pos c, if_pos (show at_ (sF start) (tF g) now r from c)]; simp
    rw [if_neg c, if_neg (show ¬ at_ (sF start) (tF g) now r from c)]; simp
open Classical in
theorem used_sm (g : List Tk) (start : List Int) (now p : Int) : ∀ r, usedL g p (runL g start now r 0) = sm r (fun j => if at_ (sF start) (tF g) now j ∧ pF g j = p then uF g j else 0)
  | 0 => rfl
  | r + 1 => by
    rw [runL_snoc, usedL_append, sm, ← used_sm g start now p r]
    congr 1
    by_cases c : rd start (r : Int) ≤ now ∧ now < rd start (r : Int) + (rd_T33 g (r : Int)).f0
    · rw [if_pos c]
      by_cases c2 : pF g r = p
      · rw [if_pos (show at_ (sF start) (tF g) now r ∧ pF g r = p from ⟨c, c2⟩)]
        simp only [usedL, Int.add_zero]
        rw [if_pos (show (rd_T33 g (r : Int)).f2 = p from c2)]
      rw [if_neg (fun h => c2 h.2)]
      simp only [usedL, Int.add_zero]
      rw [if_neg (show ¬ (rd_T33 g (r : Int)).f2 = p from c2)]
    rw [if_neg c, if_neg (fun h => c h.1)]
    rfl

theorem good_iff (g : List Tk) (ms ord : List Nat) (room : List Int) (workers : Int) (start : List Int) (hK : Known g ms ord) (i : Nat) (hi : i < g.length) :
    goodB g room workers start i = true ↔ good g.length (sF start) (tF g) (uF g) (pF g) (needF g) (rmF room) workers i := by
  unfold goodB atB vrB good
  rw [Bool.and_eq_true, Bool.and_eq_true, Bool.and_eq_true, Bool.and_eq_true, List.all_eq_true, decide_eq_true_iff, decide_eq_true_iff, decide_eq_true_iff, decide_eq_true_iff, len_sm, used_sm, used_sm, used_sm]
  refine and_congr ?_ (and_congr Iff.rfl ?_)
  · constructor
    · intro h k hk hn
      have := h _ hn
      rw [decide_eq_true_iff] at this
      exact this
    intro h a ha
    have h0 := setM_nonneg (needsM_at hK.hn i hi) a ha
    rw [decide_eq_true_iff]
    have e : a = ((a.toNat : Nat) : Int) := by omega
    rw [e] at ha ⊢
    exact h a.toNat (by omega) ha
  constructor
  · rintro ⟨h0, h1, h2⟩ p hp0 hp3
    obtain rfl | rfl | rfl : p = 0 ∨ p = 1 ∨ p = 2 := by omega
    · exact h0
    · exact h1
    exact h2
  intro h
  exact ⟨h 0 (by decide) (by decide), h 1 (by decide) (by decide), h 2 (by decide) (by decide)⟩

theorem starts_spec (g : List Tk) (room : List Int) (workers : Int) (start : List Int) : (startsM g room workers start).isSome = specB g room workers start := by
  unfold startsM specB
  cases c2 : roomB room with
  | false => rw [show placeM g room workers = none by unfold placeM; rw [c2]; simp]; simp
  | true =>
    cases c3 : withinB workers 1 4 with
    | false => rw [show placeM g room workers = none by unfold placeM; rw [c3]; simp]; simp
    | true =>
      cases c1 : gOf g with
      | none => rw [show placeM g room workers = none by unfold placeM; rw [c1]; simp]; simp
      | some r =>
        obtain ⟨ms, ord⟩ := r
        have hp : placeM g room workers = some (ms, ord) := by unfold placeM; rw [c1, c2, c3]; rfl
        obtain ⟨hK, _, _⟩ := placeM_known hp
        rw [hp]
        simp only [Option.isSome_some, Bool.true_and]
        by_cases hl : start.length = g.length
        · rw [if_pos hl, show decide (start.length = g.length) = true by simp [hl], Bool.true_and]
          cases c5 : (start.all fun a => withinB a 0 200) with
          | false => simp
          | true =>
            rw [if_pos rfl, Bool.true_and]
            have hr3 : ∀ p : Int, 0 ≤ p → p < 3 → 0 ≤ rmF room p := by
              intro p h0 h3
              unfold roomB at c2
              rw [Bool.and_eq_true, decide_eq_true_iff, List.all_eq_true] at c2
              have hm : rd room p ∈ room := by
                unfold rd
                rw [List.getD_eq_getElem?_getD, List.getElem?_eq_getElem (show p.toNat < room.length by omega)]
                exact List.getElem_mem _
              have := (withinB_iff' _ _ _).1 (c2.2 _ hm)
              show 0 ≤ rd room p
              omega
            have hT : ∀ j, j < g.length → 1 ≤ tF g j := fun j hj => (hK.ht j hj).1
            have h1 := run_ok g ms ord room workers hK (evsM g start) [] st0 (fun x hx => by
                rw [List.nil_append] at hx
                obtain ⟨i, hi, h⟩ := mem_evs.1 ((sorted_perm _).mem_iff.1 hx)
                exact ⟨i, hi, by rcases h with h | h <;> rw [h]⟩) (by
                rw [List.nil_append]
                have := (sorted_perm (evs (fun i => rd start (i : Int)) (fun i => (rd_T33 g (i : Int)).f0) g.length)).length_eq
                rw [evs_length] at this
                have h8 := hK.h8
                show (sorted _).length ≤ 16
                omega) ⟨rfl, fun p _ => rfl, fun k => by simp [st0]⟩
            have h2 := walk_fine g.length (sF start) (tF g) (uF g) (pF g) (needF g) (rmF room) workers hT
            have h3 := fine_good g.length (sF start) (tF g) (uF g) (pF g) (needF g) (rmF room) workers hT (fun j hj => by have := hK.ht j hj; show 0 ≤ (rd_T33 g (j : Int)).f3; omega) (fun j hj => by have := hK.ht j hj; show 0 ≤ (rd_T33 g (j : Int)).f2 ∧ (rd_T33 g (j : Int)).f2 < 3; omega) hr3
            have h4 : (runM g ms room workers (evsM g start) st0).isSome = (List.range' 0 g.length).all (goodB g room workers start) := by
              rw [Bool.eq_iff_iff, h1, List.all_eq_true]
              refine (show _ ↔ _ from h2).trans (h3.trans ?_)
              constructor
              · intro h i hi
                rw [List.mem_range'_1] at hi
                exact (good_iff g ms ord room workers start hK i (by omega)).2 (h i (by omega))
              intro h i hi
              exact (good_iff g ms ord room workers start hK i hi).1 (h i (by rw [List.mem_range'_1]; omega))
            rw [← h4]
            cases runM g ms room workers (evsM g start) st0 <;> rfl
        rw [if_neg hl, show decide (start.length = g.length) = false by simp [hl], Bool.false_and]; rfl

theorem endOf_l (g : List Tk) (start : List Int) (hg : g.length < 4611686018427387904) (hs : start.length = g.length) : ∀ r i, i + r = g.length → Gives (fun k => spec_endOf.l0 k g start (endGo g start i) (i : Int)) (endGo g start g.length)
  | 0, i, h => by
    refine Gives.of_succ (G := fun _ => some (endGo g start i)) (fun k => by rw [spec_endOf.l0, if_neg (by omega)]) ?_
    rw [show i = g.length by omega]
    exact Gives.const _
  | r + 1, i, h => by
    refine Gives.of_succ (G := fun k => spec_endOf.l0 k g start (endGo g start (i + 1)) ((i + 1 : Nat) : Int)) (fun k => by
      rw [spec_endOf.l0, if_pos (by omega), if_pos (by omega), if_pos (by omega), wrap_succ i (by omega)]
      congr 1
      show mx _ _ = max _ _
      unfold mx
      generalize wrap64 (rd start (i : Int) + (rd_T33 g (i : Int)).f0) = x
      split <;> omega) ?_
    exact endOf_l g start hg hs r (i + 1) (by omega)
/-- spec.EndTime answers as impl.EndTime's model. -/
theorem specEndTime_gives (g : List Tk) (room : List Int) (workers : Int) (start : List Int) (hg : g.length < 4611686018427387904) (hb : ∀ t ∈ g, t.f1.length < 4611686018427387904) (hrl : room.length < 4611686018427387904) (hsl : start.length < 4611686018427387904) :
    Gives (fun k => spec_EndTime.f k g room workers start) (endTimeM g room workers start) := by
  unfold endTimeM
  refine Gives.bind (F := fun k => spec_validStarts.f k g room workers start) (G := fun k v => if v = true then ((spec_endOf.f k g start).bind fun t => some t) else some (-1)) (specStarts_gives g room workers start hg hb hrl hsl) ?_
  rw [← starts_spec]
  cases hs : startsM g room workers start with
  | none => exact Gives.const _
  | some r =>
    obtain ⟨ms, ord⟩ := r
    have hl := (startsM_len hs).1
    simp only [Option.isSome_some, if_true]
    unfold endM
    rw [hl]
    exact Gives.bind (F := fun k => spec_endOf.f k g start) (G := fun k v => some v) (endOf_l g start hg hl g.length 0 (by omega)) (Gives.const _)
end Go.Proofs.YtaoeopeempmnnaaDoor

/-
  PLAIN: words on Gives; the copies of tasks.
-/
namespace Go.Proofs.YtaoeopeempmnnaaDoor
open Go Go.RowKit Go.Proofs.YtaoeopeempmnnaaDoor.M Go.Proofs.YtaoeopeempmnnaaDoorW.PrintWords Go.Proofs.YtaoeopeempmnnaaDoorW.PrintLast Go.Proofs.YtaoeopeempmnnaaDoorW.PrintMore Go.Proofs.YtaoeopeempmnnaaDoor.PA
set_option linter.unusedSimpArgs false
set_option linter.unusedVariables false

theorem Gives.pos {α : Type} {c : Prop} [Decidable c] {F G : Nat → Option α} {v : α} (h : c) (hg : Gives F v) : Gives (fun k => if c then F k else G k) v := by
  obtain ⟨K, hK⟩ := hg
  exact ⟨K, fun k hk => (if_pos h).trans (hK k hk)⟩
theorem Gives.neg {α : Type} {c : Prop} [Decidable c] {F G : Nat → Option α} {v : α} (h : ¬ c) (hg : Gives G v) : Gives (fun k => if c then F k else G k) v := by
  obtain ⟨K, hK⟩ := hg
  exact ⟨K, fun k hk => (if_neg h).trans (hK k hk)⟩
theorem Gives.now {α : Type} {F : Option α} {v : α} (h : F = some v) : Gives (fun _ => F) v := ⟨0, fun _ _ => h⟩
end Go.Proofs.YtaoeopeempmnnaaDoor

/-
  spec.anyGraph, the way that spoils a task's needs: its walk.
-/
namespace Go.Proofs.YtaoeopeempmnnaaDoor
open Go Go.RowKit Go.Proofs.YtaoeopeempmnnaaDoorW.PrintWords Go.Proofs.YtaoeopeempmnnaaDoorW.PrintLast Go.Proofs.YtaoeopeempmnnaaDoorW.PrintMore Go.Proofs.YtaoeopeempmnnaaDoor.PA
set_option linter.unusedSimpArgs false
set_option linter.unusedVariables false

namespace Hx
variable {α : Type} {d : Kd α} {e base g n cap : Nat} {ok oki okx : Nat → Prop} {W : World} {xs : List α} {i : Int} {c : List Value}
theorem zipI {j : Nat} {x : α} (h : xs[j]? = some x) : xs.zipIdx[j]? = some (x, j) := by
  rw [List.getElem?_zipIdx, h, Nat.zero_add]
  rfl
/-- A row whose element i is read out of what lies elsewhere. -/
theorem H_C (h : Kd.H d e W base ok (.slice (some ⟨g, 0, none⟩) n cap) xs i oki c) {x' : α} (hx : d.K W x' c) : d.C W (some ⟨g, 0, none⟩) xs.length (xs.set i.toNat x') := by
  obtain ⟨_, f, hR⟩ := h
  obtain ⟨hn, _, hC⟩ := Kd.R_reads' hR
  rw [List.length_zipIdx] at hC
  refine ⟨List.length_set, hC.2.1, fun h0 => ?_⟩
  obtain ⟨ad, ea, hc⟩ := hC.2.2 h0
  refine ⟨ad, ea, fun j p hj => ?_⟩
  have hjl : j < xs.length := by
    have := (List.getElem?_eq_some_iff.1 hj).1
    rwa [List.length_set] at this
  obtain ⟨cs, hl, hK, hcell⟩ := hc j _ (zipI (List.getElem?_eq_getElem hjl))
  by_cases hji : j = i.toNat
  · subst hji
    rw [List.getElem?_set_self hjl] at hj
    cases hj
    obtain ⟨e1, _⟩ := hK.1 rfl
    subst e1
    exact ⟨_, hl, hx, hcell⟩
  rw [List.getElem?_set_ne (Ne.symm hji), List.getElem?_eq_getElem hjl] at hj
  cases hj
  exact ⟨cs, hl, hK.2 hji, hcell⟩
theorem H_F (h : Kd.H d e W base ok (.slice (some ⟨g, 0, none⟩) n cap) xs i oki c) {x' : α} (hx : Kd.FK d W okx x' c) : Kd.F d W (fun k => ok k ∨ okx k) (some ⟨g, 0, none⟩) xs.length (xs.set i.toNat x') :=
  fun W' hW => H_C (Kd.H_step h (fun k hk _ hlt => hW k (.inl hk) hlt)) (hx W' (fun k hk hlt => hW k (.inr hk) hlt))
end Hx

def tkSet (g : List S33) (i : Int) (needs : List Int) : List S33 := g.set i.toNat ⟨(rd_T33 g i).f0, needs, (rd_T33 g i).f2, (rd_T33 g i).f3⟩
theorem tkSet_length (g : List S33) (i : Int) (needs : List Int) : (tkSet g i needs).length = g.length := List.length_set

set_option maxHeartbeats 8000000 in
set_option maxRecDepth 100000 in
theorem any1_calls (k : Nat) (gR : Nat) (s0 : List Int) (s1 : Int) (gs : List S33) (p1 i p2 p3 n p4 : Int) (o : List Int) (p5 : Int) (w0 w : World) (hI : IsS72 w0 w gR s0 s1) (hB : Below w0.heap.size w0 w)
    (h1 : spec_someGraph.f k s0 s1 8 = some (gs, p1)) (hne : 0 < gs.length) (h2 : spec_reader_pick.f k s0 p1 (gs.length : Int) = some (i, p2)) (h3 : spec_reader_pick.f k s0 p2 24 = some (1, p3)) (hi0 : 0 ≤ i) (hi1 : i < (gs.length : Int))
    (h4 : spec_reader_pick.f k s0 p3 (gs.length : Int) = some (n, p4)) (hlen : (rd_T33 gs i).f1.length < 1000000) (h5 : spec_reader_spoil.f k s0 p4 ((rd_T33 gs i).f1 ++ [n]) 8 = some (o, p5)) :
    Calls Tryd.prog 40 #[.pointer (some ⟨gR, 0, none⟩)] w fun e w' => ∃ v0_ : Value, e = .returned (v0_) ∧ Kd.V k33 33 w' w.heap.size (fun k_ => w.heap.size ≤ k_) v0_ (tkSet gs i o) ∧ IsS72 w0 w' gR s0 p5 ∧ Below w0.heap.size w0 w' ∧ KeepBut w w' gR none := by
  have hgw : gR < w.heap.size := IsS72.lt hI
  have hg0 := IsS72.ge hI
  have HGW := Aside0.mk hgw
  have HG0 := Aside0.mk hg0
  have HI := Aside0.mk hI
  have HB := Aside0.mk hB
  have HW0 := Aside0.mk hB.size
  have A1 := Aside0.mk h1
  have A2 := Aside0.mk h2
  have A3 := Aside0.mk h3
  have A4 := Aside0.mk h4
  have A5 := Aside0.mk h5
  have HN := Aside0.mk (And.intro hne (And.intro hi0 hi1))
  have HLn := Aside0.mk hlen
  clear hgw hg0 hI hB h1 h2 h3 h4 h5 hlen hi0 hi1 hne
  have hz : ((gs.length : Int) == 0) = false := beq_eq_false_iff_ne.mpr (by have := HN.out.1; omega)
  have hu33 := Tryd.underlying33
  go_enter Tryd.func40, Tryd.ntmps40
  go_upto_region 9 with (first
    | ((with_reducible refine gate_callee (f := 58) rfl ?_); refine goesL_ (some 6) rfl rfl Tryd.func58 (by kernel_rfl) rfl #[.pointer (some ⟨gR, 0, none⟩), .int .i64 8] rfl (by (try simp only [List.map_toArray, List.map_cons, List.map_nil]); first | done | rfl) ?_; (with_reducible refine (spec_someGraph.calls k gR s0 s1 8 gs p1 w0 _ HI.out HB.out A1.out).mono ?_); rintro e w1 ⟨v, rfl, hS, hI1, hB1, hK1⟩; refine ⟨_, rfl, ?_⟩; obtain ⟨q, cap, rfl, hq1, hq2, cells, hqh⟩ := Kd.S_form hS HN.out.1; clear HI HB; have HI := Aside0.mk hI1; have HB := Aside0.mk hB1; have HK := Aside0.mk hK1; have HS := Aside0.mk (Kd.S_mono (Kd.S_bound hS) (ok' := fun k_ => w.heap.size ≤ k_) (fun k_ hk_ => hk_.2.1)); have HQ := Aside0.mk hq1; clear hI1 hB1 hK1 hS hq1 hq2 hqh cells)
    | ((with_reducible refine gate_callee (f := 59) rfl ?_); refine goesL_ (some 14) rfl rfl Tryd.func59 (by kernel_rfl) rfl #[.pointer (some ⟨gR, 0, none⟩), .int .i64 (gs.length : Int)] rfl (by (try simp only [List.map_toArray, List.map_cons, List.map_nil]); first | done | rfl) ?_; (with_reducible refine (spec_reader_pick.calls k gR s0 p1 (gs.length : Int) i p2 w0 _ HI.out HB.out A2.out).mono ?_); rintro e w2 ⟨rfl, hI2, hB2, hK2⟩; refine ⟨_, rfl, ?_⟩; clear HI HB; have HI := Aside0.mk hI2; have HB := Aside0.mk hB2; have n0_ := Aside0.mk (KeepBut.trans HK.out hK2 (.inl rfl)); clear HK; have HK := n0_; clear n0_; have n0_ := Aside0.mk (Kd.S_keep HS.out hK2 (fun k_ hk_ e_ => by have := HGW.out; omega)); clear HS; have HS := n0_; clear n0_; clear hI2 hB2 hK2)
    | ((with_reducible refine gate_callee (f := 59) rfl ?_); refine goesL_ (some 16) rfl rfl Tryd.func59 (by kernel_rfl) rfl #[.pointer (some ⟨gR, 0, none⟩), .int .i64 24] rfl (by (try simp only [List.map_toArray, List.map_cons, List.map_nil]); first | done | rfl) ?_; (with_reducible refine (spec_reader_pick.calls k gR s0 p2 24 1 p3 w0 _ HI.out HB.out A3.out).mono ?_); rintro e w3 ⟨rfl, hI2, hB2, hK2⟩; refine ⟨_, rfl, ?_⟩; clear HI HB; have HI := Aside0.mk hI2; have HB := Aside0.mk hB2; have n0_ := Aside0.mk (KeepBut.trans HK.out hK2 (.inl rfl)); clear HK; have HK := n0_; clear n0_; have n0_ := Aside0.mk (Kd.S_keep HS.out hK2 (fun k_ hk_ e_ => by have := HGW.out; omega)); clear HS; have HS := n0_; clear n0_; clear hI2 hB2 hK2))
  have hi0 := HN.out.2.1
  have hi1 := HN.out.2.2
  obtain ⟨oki, c, hcl, hM, hcc, hfr, hoki, hH⟩ := Kd.S_elem HS.out z33 i hi0 hi1
  obtain ⟨v1, rfl, hR1⟩ := k33_openM hM
  obtain ⟨Av, cv, rfl⟩ := Kd.R_slice hR1
  have hx1 := hcc 1 _ rfl
  rw [show k33.sz = 4 from rfl] at hx1
  have HH := Aside0.mk (Kd.H_drew hH)
  have HR := Aside0.mk (Kd.R_drew hR1)
  have HO := Aside0.mk hoki
  have n0_ := Aside0.mk (IsS72.drew HI.out)
  have n1_ := Aside0.mk (below_drew1 HB.out)
  have n2_ := Aside0.mk (keep_drew HK.out)
  clear HI HB HK HS hcl hM hcc hfr hoki hH hR1
  have HI := n0_
  have HB := n1_
  have HK := n2_
  clear n0_ n1_ n2_
  have hp0 := eq_true hi0
  have hp1 := eq_true hi1
  have HQg := Aside0.mk (show q ≠ gR by have := HQ.out; have := HGW.out; omega)
  have HX := Aside0.mk hx1
  clear hx1
  refine start_ (n := 18) (S := fun w' => w'.cell? ⟨q, i.toNat * 4 + 1, none⟩ = some (.slice Av (rd_T33 gs i).f1.length cv)) (ds := [17]) #[false, false, false, false, false, false, false, false, false, false, false, false, false, false, false, false, false, false] (by kernel_rfl) rfl rfl (HX.out) (fun hHeld => ?_)
  clear HX
  generalize w3.drew = w4 at HH HR HI HB HK hHeld ⊢
  refine pure_ (i := 0) (N := some 28) (v := ?_) (a' := ?_) #[true, false, false, false, false, false, false, false, false, false, false, false, false, false, false, false, false, false] rfl rfl (by kernel_rfl) (fun _ _ _ h => h) (Or.inl ⟨by rfl, ?_⟩) ?_ ?_
  rotate_left
  · intro w'
    go_simp
    with_reducible rfl
  rotate_left
  · simp only [Act.put, List.setIfInBounds_toArray, List.set_cons_zero, List.set_cons_succ, i64_w, i32_w]
    rfl
  refine pure_ (i := 1) (N := some 29) (v := ?_) (a' := ?_) #[true, true, false, false, false, false, false, false, false, false, false, false, false, false, false, false, false, false] rfl rfl (by kernel_rfl) (fun _ _ _ h => h) (Or.inl ⟨by rfl, ?_⟩) ?_ ?_
  rotate_left
  · intro w'
    go_simp
    with_reducible rfl
  rotate_left
  · simp only [Act.put, List.setIfInBounds_toArray, List.set_cons_zero, List.set_cons_succ, i64_w, i32_w]
    rfl
  refine pure_ (i := 2) (N := some 30) (v := ?_) (a' := ?_) #[true, true, true, false, false, false, false, false, false, false, false, false, false, false, false, false, false, false] rfl rfl (by kernel_rfl) (fun _ _ _ h => h) (Or.inl ⟨by rfl, ?_⟩) ?_ ?_
  rotate_left
  · intro w'
    go_simp
    with_reducible rfl
  rotate_left
  · simp only [Act.put, List.setIfInBounds_toArray, List.set_cons_zero, List.set_cons_succ, i64_w, i32_w]
    rfl
  refine pure_ (i := 3) (N := some 31) (v := ?_) (a' := ?_) #[true, true, true, true, false, false, false, false, false, false, false, false, false, false, false, false, false, false] rfl rfl (by kernel_rfl) (fun _ _ _ h => h) (Or.inl ⟨by rfl, ?_⟩) ?_ ?_
  rotate_left
  · intro w'
    go_simp
    with_reducible rfl
  rotate_left
  · simp only [Act.put, List.setIfInBounds_toArray, List.set_cons_zero, List.set_cons_succ, i64_w, i32_w]
    rfl
  refine pure_ (i := 4) (N := some 32) (v := ?_) (a' := ?_) #[true, true, true, true, true, false, false, false, false, false, false, false, false, false, false, false, false, false] rfl rfl (by kernel_rfl) (fun _ _ _ h => h) (Or.inl ⟨by rfl, ?_⟩) ?_ ?_
  rotate_left
  · intro w'
    go_simp
    with_reducible rfl
  rotate_left
  · simp only [Act.put, List.setIfInBounds_toArray, List.set_cons_zero, List.set_cons_succ, i64_w, i32_w]
    rfl
  refine pure_ (i := 5) (N := some 33) (v := ?_) (a' := ?_) #[true, true, true, true, true, true, false, false, false, false, false, false, false, false, false, false, false, false] rfl rfl (by kernel_rfl) (fun _ _ _ h => h) (Or.inl ⟨by rfl, ?_⟩) ?_ ?_
  rotate_left
  · intro w'
    go_simp
    with_reducible rfl
  rotate_left
  · simp only [Act.put, List.setIfInBounds_toArray, List.set_cons_zero, List.set_cons_succ, i64_w, i32_w]
    rfl
  refine pure_ (i := 6) (N := some 34) (v := ?_) (a' := ?_) #[true, true, true, true, true, true, true, false, false, false, false, false, false, false, false, false, false, false] rfl rfl (by kernel_rfl) (fun _ _ _ h => h) (Or.inl ⟨by rfl, ?_⟩) ?_ ?_
  rotate_left
  · intro w'
    go_simp
    with_reducible rfl
  rotate_left
  · simp only [Act.put, List.setIfInBounds_toArray, List.set_cons_zero, List.set_cons_succ, i64_w, i32_w]
    rfl
  refine pure_ (i := 8) (N := some 36) (v := ?_) (a' := ?_) #[true, true, true, true, true, true, true, false, true, false, false, false, false, false, false, false, false, false] rfl rfl (by kernel_rfl) (fun _ _ _ h => h) (Or.inl ⟨by rfl, ?_⟩) ?_ ?_
  rotate_left
  · intro w'
    go_simp
    with_reducible rfl
  rotate_left
  · simp only [Act.put, List.setIfInBounds_toArray, List.set_cons_zero, List.set_cons_succ, i64_w, i32_w]
    rfl
  refine pure_ (i := 9) (N := some 37) (v := ?_) (a' := ?_) #[true, true, true, true, true, true, true, false, true, true, false, false, false, false, false, false, false, false] rfl rfl (by kernel_rfl) (fun _ _ _ h => h) (Or.inl ⟨by rfl, ?_⟩) ?_ ?_
  rotate_left
  · intro w'
    go_simp
    with_reducible rfl
  rotate_left
  · simp only [Act.put, List.setIfInBounds_toArray, List.set_cons_zero, List.set_cons_succ, i64_w, i32_w]
    rfl
  refine pure_ (i := 10) (N := some 38) (v := ?_) (a' := ?_) #[true, true, true, true, true, true, true, false, true, true, true, false, false, false, false, false, false, false] rfl rfl (by kernel_rfl) (fun _ _ _ h => h) (Or.inl ⟨by rfl, ?_⟩) ?_ ?_
  rotate_left
  · intro w'
    go_simp
    with_reducible rfl
  rotate_left
  · simp only [Act.put, List.setIfInBounds_toArray, List.set_cons_zero, List.set_cons_succ, i64_w, i32_w]
    rfl
  refine take_ (i := 7) (N := some 35) (v := ?_) (a' := ?_) #[true, true, true, true, true, true, true, true, true, true, true, false, false, false, false, false, false, false] rfl rfl (by kernel_rfl) (fun _ _ _ h => h) (Or.inl ⟨by rfl, ?_⟩) hHeld ?_ ?_
  rotate_left
  · intro w' s0_
    go_simp
    with_reducible rfl
  rotate_left
  · simp only [Act.put, List.setIfInBounds_toArray, List.set_cons_zero, List.set_cons_succ, i64_w, i32_w]
    rfl
  refine one_ (i := 11) (N := some 39) #[true, true, true, true, true, true, true, true, true, true, true, true, false, false, false, false, false, false] rfl rfl (by kernel_rfl) (by decide) (fun K hK => ?_)
  refine goes_ Tryd.func59 (by kernel_rfl) rfl #[.pointer (some ⟨gR, 0, none⟩), .int .i64 (gs.length : Int)] (by rfl) rfl rfl (by (try simp only [List.map_toArray, List.map_cons, List.map_nil]); first | done | rfl) ?_
  with_reducible refine (spec_reader_pick.calls k gR s0 p3 (gs.length : Int) n p4 w0 _ HI.out HB.out A4.out).mono ?_
  rintro e w5 ⟨rfl, hi_, hb_, hk_⟩
  have HS0_ := keep_cell hk_ hHeld HQg.out
  refine ⟨_, rfl, ?_⟩
  have n0_ := Aside0.mk (Kd.H_keep HH.out hk_ (fun k_ hk_ e_ => by have := HGW.out; omega))
  have n1_ := Aside0.mk (Kd.R_keep HR.out hk_ (fun k_ hk_ e_ => by have := (HO.out k_ hk_).1; have := HGW.out; omega))
  have n2_ := Aside0.mk (KeepBut.trans HK.out hk_ (.inl rfl))
  have n3_ := Aside0.mk hi_
  have n4_ := Aside0.mk hb_
  clear HH HR HK HI HB hi_ hb_ hk_
  have HH := n0_
  have HR := n1_
  have HK := n2_
  have HI := n3_
  have HB := n4_
  clear n0_ n1_ n2_ n3_ n4_
  refine hK.out _ _ (HS0_) (fun hHeld => ?_)
  clear hK K
  refine norm_ (a' := ?_) ?_ ?_
  rotate_left
  · show Act.put _ (some 39) _ = _
    simp only [Act.put, List.setIfInBounds_toArray, List.set_cons_zero, List.set_cons_succ, i64_w, i32_w]
    rfl
  refine one_ (i := 12) (N := some 40) #[true, true, true, true, true, true, true, true, true, true, true, true, true, false, false, false, false, false] rfl rfl (by kernel_rfl) (by decide) (fun K hK => ?_)
  refine value_ (w1 := w5.alloc (.cells #[.int .i64 n] 3)) (v := .slice (some ⟨w5.heap.size, 0, none⟩) 1 1) (by rfl) rfl ?_ ?_
  · go_simp
    try rfl
  refine hK.out _ _ ((below_alloc (Below.refl w5.heap.size w5) (.cells #[.int .i64 n] 3)).cell (World.block_lt_of_cell? _ _ hHeld) |>.trans hHeld) (fun hHeld => ?_)
  clear hK K
  refine norm_ (a' := ?_) ?_ ?_
  rotate_left
  · show Act.put _ (some 40) _ = _
    simp only [Act.put, List.setIfInBounds_toArray, List.set_cons_zero, List.set_cons_succ, i64_w, i32_w]
    rfl
  have HS5 := Aside0.mk (show w5.cell? ⟨q, i.toNat * 4 + 1, none⟩ = some (.slice Av (rd_T33 gs i).f1.length cv) from HS0_)
  refine one_ (i := 13) (N := some 41) #[true, true, true, true, true, true, true, true, true, true, true, true, true, true, false, false, false, false] rfl rfl (by kernel_rfl) (by decide) (fun K hK => ?_)
  refine Kd.R_append_step (Kd.int .i64) (w0 := w5) (W := w5) w.heap.size (by rfl) (.tmp 35) (.tmp 40) 24 3 (.int .i64 0) 8 rfl Tryd.underlying24 info3 rfl (by decide) (by omega) (.slice Av (rd_T33 gs i).f1.length cv) (rd_T33 gs i).f1 n [.int .i64 n] (fun k_ => oki k_ ∨ w5.heap.size ≤ k_) (fun _ => False) rfl rfl ?aP (fun _ hk => hk.elim) (fun _ hk => .inr hk) (Kd.R_mono HR.out (fun _ hk => .inl hk)) (Below.refl _ _) (keep_size (w := w) (g := gR) (row := none) HK.out) (by have := HLn.out; omega) ?_
  (case aP => rfl)
  intro v6 w6 ho6 hb6 hg6 hat6
  have hrow : ∀ k_, (Value.slice Av (rd_T33 gs i).f1.length cv).ownBlock = some k_ → oki k_ := fun k_ e_ => HR.out.1 k_ e_
  have hHeld6 : w6.cell? ⟨q, i.toNat * 4 + 1, none⟩ = some (.slice Av (rd_T33 gs i).f1.length cv) := by
    have hlt := World.block_lt_of_cell? w5 _ HS5.out
    have he := hg6.block q hlt (fun e_ => (HO.out q (hrow q e_.symm)).2 rfl)
    exact (World.cell?_of_block (a := ⟨q, _, none⟩) he).trans HS5.out
  have n0_ := Aside0.mk (Kd.H_grown HH.out hg6 hrow)
  have n1_ := Aside0.mk ho6
  have n2_ := Aside0.mk (KeepBut.trans HK.out (KeepBut.of_grown hg6 gR) (Kd.R_base2 HR.out))
  have n3_ := Aside0.mk (IsS72.grown HI.out hg6 (fun e_ => by have := (HO.out gR (hrow gR e_.symm)).1; have := HGW.out; omega))
  have n4_ := Aside0.mk (below_weaken HB.out HW0.out hb6)
  clear HH HR HK HI HB ho6 hb6 hg6 hat6 HS5
  have HH := n0_
  have HR := n1_
  have HK := n2_
  have HI := n3_
  have HB := n4_
  clear n0_ n1_ n2_ n3_ n4_ hrow
  obtain ⟨A6, c6, rfl⟩ := Kd.R_slice HR.out
  refine hK.out _ _ (hHeld6) (fun hHeld => ?_)
  clear hK K
  refine norm_ (a' := ?_) ?_ ?_
  rotate_left
  · show Act.put _ (some 41) _ = _
    simp only [Act.put, List.setIfInBounds_toArray, List.set_cons_zero, List.set_cons_succ, i64_w, i32_w]
    rfl
  refine one_ (i := 14) (N := some 42) #[true, true, true, true, true, true, true, true, true, true, true, true, true, true, true, false, false, false] rfl rfl (by kernel_rfl) (by decide) (fun K hK => ?_)
  refine goes_ Tryd.func60 (by kernel_rfl) rfl #[.pointer (some ⟨gR, 0, none⟩), .slice A6 ((rd_T33 gs i).f1 ++ [n]).length c6, .int .i64 8] (by rfl) rfl rfl (by (try simp only [List.map_toArray, List.map_cons, List.map_nil]); first | done | rfl) ?_
  with_reducible refine (spec_reader_spoil.calls k gR s0 p4 _ _ ((rd_T33 gs i).f1 ++ [n]) 8 o p5 w0 _ HI.out HB.out (Kd.R_reads' HR.out).2.2 (Kd.R_reads' HR.out).2.1 ?hf A5.out).mono ?_
  (case hf => exact fun ad ea hl_ e_ => by subst ea; obtain ⟨g6, rfl⟩ := Kd.R_head HR.out; have := Kd.R_base HR.out g6 rfl; have := HGW.out; simp only at e_; omega)
  rintro e w7 ⟨v7, rfl, hq7, hi_, hb_, hk_⟩
  have HS0_ := keep_cell hk_ hHeld HQg.out
  refine ⟨_, rfl, ?_⟩
  have hs67 := keep_size (w := w) (g := gR) (row := none) HK.out
  have n0_ := Aside0.mk (Kd.H_keep HH.out hk_ (fun k_ hk_ e_ => by have := HGW.out; omega))
  have n2_ := Aside0.mk (KeepBut.trans HK.out hk_ (.inl rfl))
  have n3_ := Aside0.mk hi_
  have n4_ := Aside0.mk hb_
  have hq6 : q < w6.heap.size := World.block_lt_of_cell? w6 _ hHeld
  have HV := Aside0.mk (Kd.Q_V (Kd.Q_mono (Kd.Q_bound hq7) (ok' := fun k_ => w6.heap.size ≤ k_) (fun k_ hk_ => hk_.2.1)) (base' := w.heap.size))
  have HQ6 := Aside0.mk (And.intro hq6 hs67)
  clear HH HR HK HI HB hi_ hb_ hk_ hq7 hs67 hq6
  have HH := n0_
  have HK := n2_
  have HI := n3_
  have HB := n4_
  clear n0_ n2_ n3_ n4_
  obtain ⟨A7, c7, e7⟩ := Kd.V_slice HV.out
  subst e7
  refine hK.out _ _ (HS0_) (fun hHeld => ?_)
  clear hK K
  refine norm_ (a' := ?_) ?_ ?_
  rotate_left
  · show Act.put _ (some 42) _ = _
    simp only [Act.put, List.setIfInBounds_toArray, List.set_cons_zero, List.set_cons_succ, i64_w, i32_w]
    rfl
  refine pure_ (i := 15) (N := some 43) (v := ?_) (a' := ?_) #[true, true, true, true, true, true, true, true, true, true, true, true, true, true, true, true, false, false] rfl rfl (by kernel_rfl) (fun _ _ _ h => h) (Or.inl ⟨by rfl, ?_⟩) ?_ ?_
  rotate_left
  · intro w'
    go_simp
    with_reducible rfl
  rotate_left
  · simp only [Act.put, List.setIfInBounds_toArray, List.set_cons_zero, List.set_cons_succ, i64_w, i32_w]
    rfl
  refine pure_ (i := 16) (N := some 44) (v := ?_) (a' := ?_) #[true, true, true, true, true, true, true, true, true, true, true, true, true, true, true, true, true, false] rfl rfl (by kernel_rfl) (fun _ _ _ h => h) (Or.inl ⟨by rfl, ?_⟩) ?_ ?_
  rotate_left
  · intro w'
    go_simp
    with_reducible rfl
  rotate_left
  · simp only [Act.put, List.setIfInBounds_toArray, List.set_cons_zero, List.set_cons_succ, i64_w, i32_w]
    rfl
  obtain ⟨hcc7, hfr7⟩ := Kd.H_at HH.out hi0 hi1
  have hx7 := hcc7 1 _ rfl
  have hf7 := hfr7 1
  rw [show k33.sz = 4 from rfl] at hx7 hf7
  clear hcc7 hfr7
  refine last_ (i := 17) (N := none) #[true, true, true, true, true, true, true, true, true, true, true, true, true, true, true, true, true, true] rfl rfl (by kernel_rfl) (by decide) (fun K hK => ?_)
  refine skip_ (w1 := ?_) (by rfl) rfl ?_ ?_
  rotate_left
  · go_simp
    rfl
  refine hK.out _ _ ?_
  clear hK K
  refine done_ (by kernel_rfl) ?_
  try go_wp2
  go_ret
  obtain ⟨hH8, hg8⟩ := Kd.H_seg HH.out hi0 hi1 (seg := [.slice A7 o.length c7]) (j := 1) (show 2 ≤ 4 from by decide) (by intro u_ hu_; simp only [List.mem_cons, List.not_mem_nil, or_false] at hu_; subst hu_; rfl)
  have hF7 := (Kd.V_at HV.out).2.2
  have hne8 : ∀ k_, w6.heap.size ≤ k_ → some k_ ≠ some q := fun k_ hk_ e_ => by injection e_ with e_; have := HQ6.out.1; omega
  have hF8 := Kd.F_grown hF7 hg8 (fun k_ hk_ => hne8 k_ hk_)
  have hFK := k33_mkF _ _ (⟨(rd_T33 gs i).f0, o, (rd_T33 gs i).f2, (rd_T33 gs i).f3⟩ : S33) (Kd.V_at HV.out).2.1 hF8
  have hV := Kd.F_mono (Hx.H_F hH8 hFK) (ok' := fun k_ => w.heap.size ≤ k_) (fun k_ hk_ => hk_.elim id (fun h_ => Nat.le_trans HQ6.out.2 h_))
  refine ⟨_, rfl, ?_, ?_, ?_, ?_⟩
  · have := Kd.V_mk (e := 33) (base := w.heap.size) (d := k33) (xs := tkSet gs i o) (c := cap) (by rw [tkSet_length]; exact (Kd.R_reads' HH.out.2.choose_spec).2.1 |> fun h_ => by simpa using h_) (by rw [tkSet_length]; exact hV)
    rw [tkSet_length] at this
    exact this
  · exact IsS72.far HI.out (Ne.symm HQg.out) _
  · exact below_set HB.out (Nat.le_trans HW0.out HQ.out)
  exact keep_far HK.out HQ.out _
end Go.Proofs.YtaoeopeempmnnaaDoor

/-
  spec.anyGraph whole, spec.DrawValidStarts: their contracts.
-/
namespace Go.Proofs.YtaoeopeempmnnaaDoor
open Go Go.RowKit Go.Proofs.YtaoeopeempmnnaaDoorW.PrintWords Go.Proofs.YtaoeopeempmnnaaDoorW.PrintLast Go.Proofs.YtaoeopeempmnnaaDoorW.PrintMore Go.Proofs.YtaoeopeempmnnaaDoor.PA
set_option linter.unusedSimpArgs false
set_option linter.unusedVariables false

/-- The way that spoils a task's needs. -/
def any1 (k : Nat) (s0 : List Int) (s1 : Int) : Option (List S33 × Int) :=
  (spec_someGraph.f k s0 s1 8).bind fun b => if 0 < b.1.length then
    (spec_reader_pick.f k s0 b.2 (b.1.length : Int)).bind fun p => (spec_reader_pick.f k s0 p.2 24).bind fun q =>
      if q.1 = 1 ∧ 0 ≤ p.1 ∧ p.1 < (b.1.length : Int) ∧ (rd_T33 b.1 p.1).f1.length < 1000000 then
        (spec_reader_pick.f k s0 q.2 (b.1.length : Int)).bind fun n => (spec_reader_spoil.f k s0 n.2 ((rd_T33 b.1 p.1).f1 ++ [n.1]) 8).bind fun o => some (tkSet b.1 p.1 o.1, o.2)
      else none
  else none
/-- anyGraph: the print's ways, and that one. -/
def anyM (k : Nat) (s0 : List Int) (s1 : Int) : Option (List S33 × Int) :=
  match spec_anyGraph.f k s0 s1 with
  | some r => some r
  | none => any1 k s0 s1

theorem any_calls (k : Nat) (gR : Nat) (s0 : List Int) (s1 : Int) (r1 : List S33) (r2 : Int) (w0 w : World) (hI : IsS72 w0 w gR s0 s1) (hB : Below w0.heap.size w0 w) (h : anyM k s0 s1 = some (r1, r2)) :
    Calls Tryd.prog 40 #[.pointer (some ⟨gR, 0, none⟩)] w fun e w' => ∃ v0_ : Value, e = .returned (v0_) ∧ Kd.V k33 33 w' w.heap.size (fun k_ => w.heap.size ≤ k_) v0_ r1 ∧ IsS72 w0 w' gR s0 r2 ∧ Below w0.heap.size w0 w' ∧ KeepBut w w' gR none := by
  unfold anyM at h
  cases ha : spec_anyGraph.f k s0 s1 with
  | some r =>
    rw [ha] at h
    cases h
    refine (spec_anyGraph.calls k gR s0 s1 r1 r2 w0 w hI hB ha).mono ?_
    rintro e w' ⟨v, rfl, hN, h1, h2, h3⟩
    exact ⟨v, rfl, Kd.N_V hN, h1, h2, h3⟩
  | none =>
    rw [ha] at h
    unfold any1 at h
    obtain ⟨⟨gs, p1⟩, h1, h⟩ := Option.bind_eq_some_iff.1 h
    simp only at h
    split at h
    · rename_i hne
      obtain ⟨⟨i, p2⟩, h2, h⟩ := Option.bind_eq_some_iff.1 h
      obtain ⟨⟨q, p3⟩, h3, h⟩ := Option.bind_eq_some_iff.1 h
      simp only at h h2 h3
      split at h
      · rename_i hc
        obtain ⟨rfl, hi0, hi1, hl⟩ := hc
        obtain ⟨⟨n, p4⟩, h4, h⟩ := Option.bind_eq_some_iff.1 h
        obtain ⟨⟨o, p5⟩, h5, h⟩ := Option.bind_eq_some_iff.1 h
        simp only at h h4 h5
        cases h
        exact any1_calls k gR s0 s1 gs p1 i p2 p3 n p4 o r2 w0 w hI hB h1 hne h2 h3 hi0 hi1 h4 hl h5
      cases h
    cases h

def drawK (k : Nat) (code : List Int) : Option (List S33 × List Int × Int × List Int) :=
  (spec_newReader.f code).bind fun n => (anyM k n.1 n.2).bind fun a => (spec_someStarts.f k n.1 a.2 a.1).bind fun s => some (a.1, s.1, s.2.1, s.2.2.1)

set_option maxHeartbeats 4000000 in
set_option maxRecDepth 100000 in
theorem draw_calls (k : Nat) (A0 : Option Addr) (c0 : Nat) (l0 : List Int) (r1 : List S33) (r2 : List Int) (r3 : Int) (r4 : List Int) (w : World) (hr0 : Kd.C (Kd.int .u8) w A0 l0.length l0) (hc0 : l0.length ≤ c0) (h : drawK k l0 = some (r1, r2, r3, r4)) :
    Calls Tryd.prog 15 #[.slice A0 l0.length c0] w fun e w' => ∃ v0_ v1_ v3_ : Value, e = .returned (.tuple #[v0_, v1_, .int .i64 r3, v3_]) ∧ Kd.V k33 33 w' w.heap.size (fun k_ => (w.heap.size ≤ k_)) v0_ r1 ∧ Kd.V (Kd.int .i64) 3 w' w.heap.size (fun k_ => (w.heap.size ≤ k_)) v1_ r2 ∧ Kd.V (Kd.int .i64) 3 w' w.heap.size (fun k_ => (w.heap.size ≤ k_)) v3_ r4 ∧ Below w.heap.size w w' := by
  unfold drawK at h
  obtain ⟨⟨n1, n2⟩, h1, h⟩ := Option.bind_eq_some_iff.1 h
  obtain ⟨⟨g, a2⟩, h2, h⟩ := Option.bind_eq_some_iff.1 h
  obtain ⟨⟨s1, s2, s3, s4⟩, h3, h⟩ := Option.bind_eq_some_iff.1 h
  simp only at h h2 h3
  cases h
  have A1 := Aside0.mk h1
  have A2 := Aside0.mk h2
  have A3 := Aside0.mk h3
  have HR := Aside0.mk hr0
  clear h1 h2 h3 hr0
  go_enter Tryd.func15, Tryd.ntmps15
  go_wp2_with (first
    | (go_at_call 39; refine (spec_newReader.calls A0 c0 l0 n1 n2 w _ (Below.refl _ _) HR.out hc0 A1.out).mono ?_; rintro e w1 ⟨gR, rfl, hI, hb0, hb⟩; have HI := Aside0.mk hI; have HB := Aside0.mk hb0; have HGe := Aside0.mk (And.intro (IsS72.ge hI) (IsS72.lt hI)); clear hI hb0 hb)
    | (go_at_call 40; refine (any_calls k gR n1 n2 r1 a2 w _ HI.out HB.out A2.out).mono ?_; rintro e w2 ⟨v, rfl, hV, hI, hb, hk⟩; obtain ⟨Av, cv, rfl⟩ := Kd.V_slice hV; have HV := Aside0.mk hV; clear HI HB; have HI := Aside0.mk hI; have HB := Aside0.mk hb; have HK := Aside0.mk hk; clear hV hI hb hk)
    | (go_at_call 41; refine (spec_someStarts.calls k gR n1 a2 Av cv r1 r2 r3 r4 s4 w _ HI.out HB.out (fun W_ hk_ => (Kd.V_at HV.out).2.2 W_ (fun k_ hk1_ hk2_ => hk_.2 k_ hk2_ (fun e_ => by have := HGe.out.2; omega) (by simp))) (Kd.V_at HV.out).2.1 A3.out).mono ?_; rintro e w3 ⟨v0, v2, rfl, hQ, hR, hI, hb, hk⟩; have HQ := Aside0.mk hQ; have HR2 := Aside0.mk hR; clear HI HB; have HB := Aside0.mk hb; have HK2 := Aside0.mk hk; clear hQ hR hI hb hk))
  refine bodyPost_ret (results_list (rs := [.tmp 2, .tmp 3, .tmp 4, .tmp 5]) rfl (by simp) (.tmp (.tmp (.tmp (.tmp .nil))))) rfl ?_
  have hs1 : w.heap.size ≤ w1.heap.size := Nat.le_trans HGe.out.1 (Nat.le_of_lt HGe.out.2)
  have hs2 : w1.heap.size ≤ w2.heap.size := HK.out.1
  refine ⟨_, _, _, rfl, ?_, ?_, ?_, HB.out⟩
  · refine Kd.V_mk (Kd.V_at HV.out).2.1 (Kd.F_mono (Kd.F_keep (Kd.V_at HV.out).2.2 HK2.out (fun k_ hk_ e_ => by have := HGe.out.2; omega)) (fun k_ hk_ => Nat.le_trans hs1 hk_))
  · exact Kd.Q_V (Kd.Q_mono (Kd.Q_bound HQ.out) (fun k_ hk_ => Nat.le_trans (Nat.le_trans hs1 hs2) hk_.2.1))
  exact Kd.R_V (Kd.R_mono (Kd.R_bound HR2.out) (fun k_ hk_ => Nat.le_trans (Nat.le_trans hs1 hs2) hk_.2.1))

open Classical in
/-- What is drawn: where there is an answer. -/
noncomputable def spec_DrawValidStarts.f (l0 : List Int) : Option (List S33 × List Int × Int × List Int) :=
  if h : ∃ r, Gives (fun k => drawK k l0) r then some h.choose else none
theorem spec_DrawValidStarts.calls (A0 : Option Addr) (c0 : Nat) (l0 : List Int) (r1 : List S33) (r2 : List Int) (r3 : Int) (r4 : List Int) (w : World) (hr0 : Kd.C (Kd.int .u8) w A0 l0.length l0) (hc0 : l0.length ≤ c0) (h : spec_DrawValidStarts.f l0 = some (r1, r2, r3, r4)) :
    Calls Tryd.prog 15 #[.slice A0 l0.length c0] w fun e w' => ∃ v0_ v1_ v3_ : Value, e = .returned (.tuple #[v0_, v1_, .int .i64 r3, v3_]) ∧ Kd.V k33 33 w' w.heap.size (fun k_ => (w.heap.size ≤ k_)) v0_ r1 ∧ Kd.V (Kd.int .i64) 3 w' w.heap.size (fun k_ => (w.heap.size ≤ k_)) v1_ r2 ∧ Kd.V (Kd.int .i64) 3 w' w.heap.size (fun k_ => (w.heap.size ≤ k_)) v3_ r4 ∧ Below w.heap.size w w' := by
  unfold spec_DrawValidStarts.f at h
  split at h
  · rename_i hex
    have h1 := hex.choose_spec
    rw [Option.some.inj h] at h1
    obtain ⟨k, hk⟩ := h1.get
    exact draw_calls k A0 c0 l0 r1 r2 r3 r4 w hr0 hc0 hk
  cases h
theorem draw_some {l0 : List Int} {r : List S33 × List Int × Int × List Int} (h : Gives (fun k => drawK k l0) r) : spec_DrawValidStarts.f l0 = some r := by
  have hex : ∃ r, Gives (fun k => drawK k l0) r := ⟨r, h⟩
  unfold spec_DrawValidStarts.f
  rw [dif_pos hex]
  obtain ⟨K1, e1⟩ := h
  obtain ⟨K2, e2⟩ := hex.choose_spec
  have f1 := e1 (max K1 K2) (Nat.le_max_left _ _)
  have f2 := e2 (max K1 K2) (Nat.le_max_right _ _)
  simp only at f1 f2
  rw [← f2, f1]
end Go.Proofs.YtaoeopeempmnnaaDoor

/-
  PLAIN: what is drawn, first part: the reader, lists that are spoiled, graphs: there is an answer, and its sizes are bounded.
-/
namespace Go.Proofs.YtaoeopeempmnnaaDoor
open Go Go.RowKit Go.Proofs.YtaoeopeempmnnaaDoor.M Go.Proofs.YtaoeopeempmnnaaDoorW.PrintWords Go.Proofs.YtaoeopeempmnnaaDoorW.PrintLast Go.Proofs.YtaoeopeempmnnaaDoorW.PrintMore Go.Proofs.YtaoeopeempmnnaaDoor.PA
set_option linter.unusedSimpArgs false
set_option linter.unusedVariables false

/-- From some fuel on F answers some value of P. -/
def GP {α : Type} (F : Nat → Option α) (P : α → Prop) : Prop := ∃ v, Gives F v ∧ P v
section
variable {α β : Type} {F G : Nat → Option α} {P Q : α → Prop} {v : α}
theorem GP.of (h : Gives F v) (hp : P v) : GP F P := ⟨v, h, hp⟩
theorem GP.bind {F : Nat → Option α} {G : Nat → α → Option β} {P : α → Prop} {Q : β → Prop} (hf : GP F P) (hg : ∀ v, P v → GP (fun k => G k v) Q) : GP (fun k => (F k).bind (G k)) Q := by
  obtain ⟨v, h1, hp⟩ := hf
  obtain ⟨r, h2, hq⟩ := hg v hp
  exact ⟨r, Gives.bind h1 h2, hq⟩
theorem GP.ite {c : Prop} [Decidable c] (h1 : c → GP F Q) (h2 : ¬ c → GP G Q) : GP (fun k => if c then F k else G k) Q := by
  by_cases h : c
  · obtain ⟨v, hv, hq⟩ := h1 h
    exact ⟨v, Gives.pos h hv, hq⟩
  obtain ⟨v, hv, hq⟩ := h2 h
  exact ⟨v, Gives.neg h hv, hq⟩
theorem GP.pos {c : Prop} [Decidable c] (h : c) (hf : GP F Q) : GP (fun k => if c then F k else G k) Q := GP.ite (fun _ => hf) (fun h2 => absurd h h2)
theorem GP.neg {c : Prop} [Decidable c] (h : ¬ c) (hf : GP G Q) : GP (fun k => if c then F k else G k) Q := GP.ite (fun h2 => absurd h2 h) (fun _ => hf)
theorem GP.ret (h : Q v) : GP (fun _ => some v) Q := ⟨v, Gives.const v, h⟩
theorem GP.now {F : Option α} (hf : F = some v) (h : Q v) : GP (fun _ => F) Q := ⟨v, Gives.now hf, h⟩
theorem GP.succ (h : ∀ k, F (k + 1) = G k) (hg : GP G Q) : GP F Q := by
  obtain ⟨v, hv, hq⟩ := hg
  exact ⟨v, Gives.of_succ h hv, hq⟩
theorem GP.mono (hf : GP F P) (h : ∀ v, P v → Q v) : GP F Q := by
  obtain ⟨v, hv, hp⟩ := hf
  exact ⟨v, hv, h v hp⟩
end

theorem wrap_sm (x : Int) (h0 : -9223372036854775808 ≤ x) (h1 : x ≤ 9223372036854775807) : wrap64 x = x := by unfold wrap64; omega
theorem xor_i64_nat (a b : Nat) (ha : a < 4611686018427387904) (hb : b < 4611686018427387904) : Go.bits .xor .i64 (a : Int) (b : Int) = ((a ^^^ b : Nat) : Int) := by
  have hx : a ^^^ b < 2 ^ 62 := Nat.xor_lt_two_pow (by omega) (by omega)
  have h1 : (BitVec.ofInt 64 (a : Int)).toNat = a := by
    rw [BitVec.ofInt_natCast, BitVec.toNat_ofNat]; exact Nat.mod_eq_of_lt (by omega)
  have h2 : (BitVec.ofInt 64 (b : Int)).toNat = b := by
    rw [BitVec.ofInt_natCast, BitVec.toNat_ofNat]; exact Nat.mod_eq_of_lt (by omega)
  show IntKind.i64.wrap ((BitVec.ofInt 64 (a : Int) ^^^ BitVec.ofInt 64 (b : Int)).toNat : Int) = _
  rw [BitVec.toNat_xor, h1, h2, IntKind.wrap_i64]
  omega
theorem xor_nonneg (a b : Int) (ha : 0 ≤ a) (ha1 : a < 4611686018427387904) (hb : 0 ≤ b) (hb1 : b < 4611686018427387904) : 0 ≤ Go.bits .xor .i64 a b := by
  have := xor_i64_nat a.toNat b.toNat (by omega) (by omega)
  rw [show ((a.toNat : Nat) : Int) = a by omega, show ((b.toNat : Nat) : Int) = b by omega] at this
  rw [this]
  omega

/-- The bytes that are read. -/
structure Rdr (s0 : List Int) : Prop where
  hl : s0.length ≤ 2000
  hb : ∀ x ∈ s0, 0 ≤ x ∧ x ≤ 255
theorem Rdr.at {s0 : List Int} (h : Rdr s0) (i : Int) : 0 ≤ rd s0 i ∧ rd s0 i ≤ 255 := by
  unfold rd
  rw [List.getD_eq_getElem?_getD]
  cases hx : s0[i.toNat]? with
  | none => simp
  | some x => exact h.hb x (List.mem_of_getElem? hx)

theorem pick_j (s0 : List Int) (hs : Rdr s0) (p a : Int) (h0 : 0 ≤ p) (h1 : p ≤ 100000) (ha : 1 ≤ a) (b : Bool) (hbb : b = false → 0 < s0.length) :
    GP (fun k => spec_reader_pick.j0 k a b s0 (p + 1)) (fun r => (0 ≤ r.1 ∧ r.1 < a) ∧ r.2 = p + 1) := by
  have hw : wrap64 (p + 1 - 1) = p := by unfold wrap64; omega
  have hl := hs.hl
  refine GP.succ (fun k => by rw [spec_reader_pick.j0]) ?_
  simp only [hw]
  refine GP.ite (fun _ => GP.ret ⟨⟨by omega, by omega⟩, rfl⟩) (fun hb => ?_)
  have hpos := hbb (by simpa using hb)
  refine GP.ite (fun hlt => ?_) (fun hge => ?_)
  · refine GP.pos (by omega) (GP.neg (by omega) (GP.ret ⟨?_, rfl⟩))
    obtain ⟨r0, r1⟩ := hs.at p
    rw [wrap_sm (rd s0 p) (by omega) (by omega)]
    exact ⟨Int.tmod_nonneg _ r0, Int.tmod_lt_of_pos _ (by omega)⟩
  refine GP.neg (by omega) ?_
  have hL : (0 : Int) < (s0.length : Int) := by omega
  have t1 := Int.tmod_nonneg (s0.length : Int) h0
  have t2 := Int.tmod_lt_of_pos p hL
  have e7 : wrap64 (wrap64 (p * 7) + 3) = p * 7 + 3 := by rw [wrap_sm (p * 7) (by omega) (by omega), wrap_sm _ (by omega) (by omega)]
  simp only [e7]
  have t3 := Int.tmod_nonneg (s0.length : Int) (show 0 ≤ p * 7 + 3 by omega)
  have t4 := Int.tmod_lt_of_pos (p * 7 + 3) hL
  refine GP.pos t1 (GP.pos t2 (GP.pos t3 (GP.pos t4 (GP.neg (by omega) (GP.ret ⟨?_, rfl⟩)))))
  obtain ⟨a0, a1⟩ := hs.at (Int.tmod p (s0.length : Int))
  obtain ⟨b0, b1⟩ := hs.at (Int.tmod (p * 7 + 3) (s0.length : Int))
  generalize rd s0 (Int.tmod p (s0.length : Int)) = x at a0 a1 ⊢
  generalize rd s0 (Int.tmod (p * 7 + 3) (s0.length : Int)) = y at b0 b1 ⊢
  have d0 := Int.tdiv_nonneg h0 (show (0 : Int) ≤ (s0.length : Int) by omega)
  have d1 := Int.tdiv_le_self (a := p) (s0.length : Int) h0
  generalize Int.tdiv p (s0.length : Int) = z at d0 d1 ⊢
  have ex : wrap64 (wrap64 (wrap64 (wrap64 (wrap64 x * 131) + wrap64 (wrap64 y * 1117)) + wrap64 (p * 29)) + wrap64 (wrap64 z * 53)) = x * 131 + y * 1117 + p * 29 + z * 53 := by
    rw [wrap_sm x (by omega) (by omega), wrap_sm y (by omega) (by omega), wrap_sm z (by omega) (by omega), wrap_sm (x * 131) (by omega) (by omega), wrap_sm (y * 1117) (by omega) (by omega), wrap_sm (p * 29) (by omega) (by omega), wrap_sm (z * 53) (by omega) (by omega), wrap_sm (x * 131 + y * 1117) (by omega) (by omega), wrap_sm (x * 131 + y * 1117 + p * 29) (by omega) (by omega), wrap_sm _ (by omega) (by omega)]
  simp only [ex]
  have hX : 0 ≤ x * 131 + y * 1117 + p * 29 + z * 53 := by omega
  have hX1 : x * 131 + y * 1117 + p * 29 + z * 53 ≤ 1000000000 := by omega
  generalize x * 131 + y * 1117 + p * 29 + z * 53 = X at hX hX1 ⊢
  have f0 := Int.tdiv_nonneg hX (show (0 : Int) ≤ 64 by omega)
  have f1 := Int.tdiv_le_self (a := X) 64 hX
  rw [wrap_sm (Int.tdiv X 64) (by omega) (by omega)]
  exact ⟨Int.tmod_nonneg _ (xor_nonneg _ _ hX (by omega) f0 (by omega)), Int.tmod_lt_of_pos _ (by omega)⟩

theorem pick_ok (s0 : List Int) (hs : Rdr s0) (p a : Int) (h0 : 0 ≤ p) (h1 : p ≤ 100000) (ha : 1 ≤ a) :
    GP (fun k => spec_reader_pick.f k s0 p a) (fun r => (0 ≤ r.1 ∧ r.1 < a) ∧ r.2 = p + 1) := by
  have hw : wrap64 (p + 1) = p + 1 := wrap_sm _ (by omega) (by omega)
  unfold spec_reader_pick.f
  simp only [hw]
  exact GP.neg (by omega) (pick_j s0 hs p a h0 h1 ha _ (fun h => by have h2 : ¬ ((s0.length : Int) = 0) := by simpa using h
                                                                    omega))
theorem rd_mem (l : List Int) (i : Int) (h0 : 0 ≤ i) (h1 : i < (l.length : Int)) : rd l i ∈ l := by
  unfold rd
  rw [List.getD_eq_getElem?_getD, List.getElem?_eq_getElem (show i.toNat < l.length by omega)]
  exact List.getElem_mem _
theorem one_ok (s0 : List Int) (hs : Rdr s0) (p : Int) (l : List Int) (h0 : 0 ≤ p) (h1 : p ≤ 100000) (hl : 1 ≤ l.length) :
    GP (fun k => spec_reader_one.f k s0 p l) (fun r => r.1 ∈ l ∧ r.2 = p + 1) := by
  unfold spec_reader_one.f
  refine GP.bind (pick_ok s0 hs p (l.length : Int) h0 h1 (by omega)) ?_
  rintro ⟨a, b⟩ ⟨⟨ha, hb⟩, hc⟩
  exact GP.pos ha (GP.pos hb (GP.ret ⟨rd_mem l a ha hb, hc⟩))
theorem copy_ok (l : List Int) (hl : l.length ≤ 100000) : spec_copyInts.f l = some l := by
  unfold spec_copyInts.f
  rw [Option.bind_some, if_pos (by simp; omega)]
  rfl
theorem spoil_ok (s0 : List Int) (hs : Rdr s0) (p : Int) (l : List Int) (n : Int) (h0 : 0 ≤ p) (h1 : p ≤ 90000) (hl : l.length ≤ 10000) :
    GP (fun k => spec_reader_spoil.f k s0 p l n) (fun r => r.1.length ≤ l.length + 1 ∧ p ≤ r.2 ∧ r.2 ≤ p + 3) := by
  unfold spec_reader_spoil.f
  refine GP.bind (GP.now (copy_ok l (by omega)) (Q := fun v => v = l) rfl) ?_
  rintro v rfl
  refine GP.bind (pick_ok s0 hs p 20 h0 (by omega) (by omega)) ?_
  rintro ⟨a, b⟩ ⟨⟨ha, hb⟩, hc⟩
  simp only at ha hb hc
  refine GP.ite (fun _ => GP.pos (by omega) (GP.ret ⟨by simp, by simp only; omega, by simp only; omega⟩)) (fun _ => ?_)
  refine GP.ite (fun _ => ?_) (fun _ => ?_)
  · refine GP.ite (fun _ => GP.pos (by omega) (GP.ret ⟨by simp; omega, by simp only; omega, by simp only; omega⟩)) (fun _ => GP.ret ⟨by simp, by simp only; omega, by simp only; omega⟩)
  refine GP.ite (fun _ => ?_) (fun _ => GP.ret ⟨by simp, by simp only; omega, by simp only; omega⟩)
  refine GP.ite (fun hpos => ?_) (fun _ => GP.ret ⟨by simp, by simp only; omega, by simp only; omega⟩)
  refine GP.bind (pick_ok s0 hs b (v.length : Int) (by omega) (by omega) (by omega)) ?_
  rintro ⟨a2, b2⟩ ⟨⟨ha2, hb2⟩, hc2⟩
  simp only at ha2 hb2 hc2
  refine GP.bind (one_ok s0 hs b2 _ (by omega) (by omega) (by simp)) ?_
  rintro ⟨a3, b3⟩ ⟨_, hc3⟩
  simp only at hc3
  exact GP.pos ha2 (GP.pos hb2 (GP.ret ⟨by simp, by simp only; omega, by simp only; omega⟩))

/-! ### graphs -/
abbrev TkD := S33
theorem turned_l1 (g : List TkD) (x4 : Int) (Q : List TkD → Prop) (x3 : List TkD) (x5 a0 a2 a3 : Int) (a1 : List Int) (h3 : x3.length ≤ 100) (h1 : a1.length ≤ 8)
    (hK : ∀ x7 : List Int, x7.length ≤ 8 → GP (fun k => spec_turned.l0 k g (x3 ++ [⟨a0, x7, a2, a3⟩]) x4 (wrap64 (x5 - 1))) Q) :
    ∀ (r : Nat) (x7 : List Int), x7.length + r ≤ 8 → r ≤ a1.length → GP (fun k => spec_turned.l1 k g x3 x4 x5 x7 ((r : Int) - 1) a0 a1 a2 a3) Q
  | 0, x7, h, _ => by
    refine GP.succ (fun k => by rw [spec_turned.l1]) ?_
    exact GP.neg (by omega) (GP.pos (by omega) (hK x7 (by omega)))
  | r + 1, x7, h, hr => by
    refine GP.succ (fun k => by rw [spec_turned.l1]) ?_
    refine GP.pos (by omega) (GP.pos (by omega) (GP.pos (by omega) (GP.pos (by omega) ?_)))
    rw [show wrap64 (((r + 1 : Nat) : Int) - 1 - 1) = (r : Int) - 1 by unfold wrap64; omega]
    exact turned_l1 g x4 Q x3 x5 a0 a2 a3 a1 h3 h1 hK r _ (by simp; omega) (by omega)
theorem rdT_bound {g : List TkD} {n : Nat} (h : ∀ t ∈ g, t.f1.length ≤ n) (i : Int) : (rd_T33 g i).f1.length ≤ n := by
  unfold rd_T33
  rw [List.getD_eq_getElem?_getD]
  cases hx : g[i.toNat]? with
  | none => show ([] : List Int).length ≤ n; simp
  | some x => exact h x (List.mem_of_getElem? hx)
theorem turned_l0 (g : List TkD) (x4 : Int) (hg : g.length ≤ 8) (hb : ∀ t ∈ g, t.f1.length ≤ 8) : ∀ (r : Nat) (x3 : List TkD), x3.length + r = g.length → (∀ t ∈ x3, t.f1.length ≤ 8) →
    GP (fun k => spec_turned.l0 k g x3 x4 ((r : Int) - 1)) (fun v => v.length = g.length ∧ ∀ t ∈ v, t.f1.length ≤ 8)
  | 0, x3, h, hx => by
    refine GP.succ (fun k => by rw [spec_turned.l0]) ?_
    exact GP.neg (by omega) (GP.ret ⟨by omega, hx⟩)
  | r + 1, x3, h, hx => by
    refine GP.succ (fun k => by rw [spec_turned.l0]) ?_
    refine GP.pos (by omega) (GP.pos (by omega) (GP.pos (by omega) ?_))
    have hl := rdT_bound hb (((r + 1 : Nat) : Int) - 1)
    have hw : wrap64 (((rd_T33 g (((r + 1 : Nat) : Int) - 1)).f1.length : Int) - 1) = ((rd_T33 g (((r + 1 : Nat) : Int) - 1)).f1.length : Int) - 1 := wrap_sm _ (by omega) (by omega)
    simp only [hw]
    refine turned_l1 g x4 _ x3 _ _ _ _ _ (by omega) hl (fun x7 h7 => ?_) _ [] (by simpa using hl) (Nat.le_refl _)
    rw [show wrap64 (((r + 1 : Nat) : Int) - 1 - 1) = (r : Int) - 1 by unfold wrap64; omega]
    refine turned_l0 g x4 hg hb r _ (by simp; omega) (fun t ht => ?_)
    rcases List.mem_append.1 ht with ht | ht
    · exact hx t ht
    have := List.mem_singleton.1 ht
    rw [this]; exact h7
theorem turned_ok (g : List TkD) (hg : g.length ≤ 8) (hb : ∀ t ∈ g, t.f1.length ≤ 8) : GP (fun k => spec_turned.f k g) (fun v => v.length = g.length ∧ ∀ t ∈ v, t.f1.length ≤ 8) := by
  unfold spec_turned.f
  rw [wrap_sm ((g.length : Int) - 1) (by omega) (by omega)]
  exact turned_l0 g _ hg hb g.length [] (by simp) (fun t ht => by cases ht)

theorem someG_l1 (s0 : List Int) (hs : Rdr s0) (Q : List TkD × Int → Prop) (x5 : List TkD) (x6 a0 a2 a3 : Int) (h5 : x5.length ≤ 8)
    (hK : ∀ (x7 : List Int) (p : Int), x7.length ≤ 8 → ∀ B : Int, p ≤ B → True) (P0 P1 : Int) (hP : 0 ≤ P0) (hP1 : P1 ≤ 90000)
    (hC : ∀ (x7 : List Int) (p : Int), x7.length ≤ 8 → P0 ≤ p → p ≤ P1 → GP (fun k => spec_someGraph.l0 k (x5 ++ [⟨a0, x7, a2, a3⟩]) (wrap64 (x6 - 1)) s0 p) Q) :
    ∀ (r i : Nat) (x7 : List Int) (p : Int), i + r = x5.length → x7.length ≤ i → P0 ≤ p → p + r ≤ P1 → GP (fun k => spec_someGraph.l1 k x5 x6 (i : Int) s0 p a0 x7 a2 a3) Q
  | 0, i, x7, p, h, h7, hp0, hp1 => by
    refine GP.succ (fun k => by rw [spec_someGraph.l1]) ?_
    exact GP.neg (by omega) (GP.pos (by omega) (hC x7 p (by omega) hp0 (by omega)))
  | r + 1, i, x7, p, h, h7, hp0, hp1 => by
    refine GP.succ (fun k => by rw [spec_someGraph.l1]) ?_
    refine GP.pos (by omega) ?_
    refine GP.bind (pick_ok s0 hs p 3 (by omega) (by omega) (by omega)) ?_
    rintro ⟨a, b⟩ ⟨_, hc⟩
    simp only at hc
    rw [wrap_succ i (by omega)]
    refine GP.ite (fun _ => GP.pos (by omega) ?_) (fun _ => ?_)
    · exact someG_l1 s0 hs Q x5 x6 a0 a2 a3 h5 hK P0 P1 hP hP1 hC r (i + 1) _ b (by omega) (by simp; omega) (by omega) (by omega)
    exact someG_l1 s0 hs Q x5 x6 a0 a2 a3 h5 hK P0 P1 hP hP1 hC r (i + 1) x7 b (by omega) (by omega) (by omega) (by omega)

/-- What a drawn graph is like. -/
def GOk (n m : Nat) (g : List TkD) : Prop := g.length ≤ n ∧ ∀ t ∈ g, t.f1.length ≤ m
theorem someG_l0 (s0 : List Int) (hs : Rdr s0) : ∀ (r : Nat) (x5 : List TkD) (p : Int), x5.length + r ≤ 8 → GOk 8 8 x5 → 0 ≤ p → p + 11 * r + 1 ≤ 80000 →
    GP (fun k => spec_someGraph.l0 k x5 (r : Int) s0 p) (fun v => GOk 8 8 v.1 ∧ p ≤ v.2 ∧ v.2 ≤ p + 11 * r + 1)
  | 0, x5, p, h, hx, hp0, hp1 => by
    refine GP.succ (fun k => by rw [spec_someGraph.l0]) ?_
    refine GP.neg (by omega) (GP.ite (fun _ => ?_) (fun _ => GP.ret ⟨hx, by simp only; omega, by simp only; omega⟩))
    refine GP.bind (pick_ok s0 hs p 4 (by omega) (by omega) (by omega)) ?_
    rintro ⟨a, b⟩ ⟨_, hc⟩
    simp only at hc
    refine GP.ite (fun _ => ?_) (fun _ => GP.ret ⟨hx, by simp only; omega, by simp only; omega⟩)
    refine GP.bind (turned_ok x5 hx.1 hx.2) ?_
    rintro v ⟨h1, h2⟩
    have h8 := hx.1
    exact GP.ret ⟨⟨by simp only; omega, h2⟩, by simp only; omega, by simp only; omega⟩
  | r + 1, x5, p, h, hx, hp0, hp1 => by
    refine GP.succ (fun k => by rw [spec_someGraph.l0]) ?_
    refine GP.pos (by omega) ?_
    refine GP.bind (one_ok s0 hs p _ (by omega) (by omega) (by simp)) ?_
    rintro ⟨a, b⟩ ⟨_, hc⟩
    refine GP.bind (pick_ok s0 hs b 3 (by simp only at hc; omega) (by simp only at hc; omega) (by omega)) ?_
    rintro ⟨a2, b2⟩ ⟨_, hc2⟩
    refine GP.bind (pick_ok s0 hs b2 4 (by simp only at hc hc2; omega) (by simp only at hc hc2; omega) (by omega)) ?_
    rintro ⟨a3, b3⟩ ⟨_, hc3⟩
    simp only at hc hc2 hc3
    refine someG_l1 s0 hs _ x5 _ _ _ _ (by omega) (fun _ _ _ _ _ => trivial) b3 (b3 + x5.length) (by omega) (by omega) (fun x7 p' h7 hp hp' => ?_) x5.length 0 [] b3 (by omega) (by simp) (Int.le_refl _) (Int.le_refl _)
    rw [show wrap64 (((r + 1 : Nat) : Int) - 1) = (r : Int) by unfold wrap64; omega]
    refine (someG_l0 s0 hs r _ p' (by simp; omega) ⟨by simp; omega, fun t ht => ?_⟩ (by omega) (by omega)).mono ?_
    · rcases List.mem_append.1 ht with ht | ht
      · exact hx.2 t ht
      have := List.mem_singleton.1 ht
      rw [this]; exact h7
    rintro v ⟨v1, v2, v3⟩
    exact ⟨v1, by omega, by omega⟩
theorem someG_ok (s0 : List Int) (hs : Rdr s0) (p : Int) (h0 : 0 ≤ p) (h1 : p ≤ 70000) : GP (fun k => spec_someGraph.f k s0 p 8) (fun v => GOk 8 8 v.1 ∧ p ≤ v.2 ∧ v.2 ≤ p + 100) := by
  unfold spec_someGraph.f
  refine GP.bind (one_ok s0 hs p _ (by omega) (by omega) (by simp)) ?_
  rintro ⟨a, b⟩ ⟨ha, hc⟩
  simp only at ha hc
  have hm : mn 8 a = a ∧ 0 ≤ a ∧ a ≤ 8 := by
    simp only [List.mem_cons, List.not_mem_nil, or_false] at ha
    unfold mn
    omega
  obtain ⟨hm, ha0, ha8⟩ := hm
  simp only [hm]
  have := someG_l0 s0 hs a.toNat [] b (by simp; omega) ⟨by simp, fun t ht => by cases ht⟩ (by omega) (by omega)
  rw [show ((a.toNat : Nat) : Int) = a by omega] at this
  refine this.mono ?_
  rintro v ⟨v1, v2, v3⟩
  exact ⟨v1, by omega, by omega⟩

theorem GOk.mono {n m n' m' : Nat} {g : List TkD} (h : GOk n m g) (hn : n ≤ n') (hm : m ≤ m') : GOk n' m' g := ⟨Nat.le_trans h.1 hn, fun t ht => Nat.le_trans (h.2 t ht) hm⟩
theorem GOk.set {n m : Nat} {g : List TkD} (h : GOk n m g) (i : Nat) (t : TkD) (ht : t.f1.length ≤ m) : GOk n m (g.set i t) := by
  refine ⟨by rw [List.length_set]; exact h.1, fun x hx => ?_⟩
  rcases List.mem_or_eq_of_mem_set hx with hx | hx
  · exact h.2 x hx
  rw [hx]; exact ht

/-- anyGraph: the print's ways or the one that spoils needs: one of them answers. -/
theorem any_ok (s0 : List Int) (hs : Rdr s0) (p : Int) (h0 : 0 ≤ p) (h1 : p ≤ 60000) : GP (fun k => anyM k s0 p) (fun v => GOk 16 10 v.1 ∧ p ≤ v.2 ∧ v.2 ≤ p + 300) := by
  have hsame : ∀ k (v : List TkD × Int), spec_anyGraph.f k s0 p = some v → anyM k s0 p = some v := fun k v h => by unfold anyM; rw [h]
  have hother : ∀ k (v : List TkD × Int), spec_anyGraph.f k s0 p = none → any1 k s0 p = some v → anyM k s0 p = some v := fun k v h h2 => by unfold anyM; rw [h]; exact h2
  obtain ⟨⟨g, p1⟩, hg, hgo, hp1, hp1'⟩ := someG_ok s0 hs p h0 (by omega)
  simp only at hgo hp1 hp1'
  by_cases hz : g.length = 0
  · have : Gives (fun k => spec_anyGraph.f k s0 p) (g, p1) := by
      unfold spec_anyGraph.f
      refine Gives.bind hg ?_
      exact Gives.pos (by simp only; omega) (Gives.const _)
    obtain ⟨K, hK⟩ := this
    exact ⟨_, ⟨K, fun k hk => hsame k _ (hK k hk)⟩, hgo.mono (by omega) (by omega), by simp only; omega, by simp only; omega⟩
  obtain ⟨⟨i, p2⟩, hi, ⟨hi0, hi1⟩, hp2⟩ := pick_ok s0 hs p1 (g.length : Int) (by omega) (by omega) (by omega)
  simp only at hi0 hi1 hp2
  obtain ⟨⟨q, p3⟩, hq, ⟨hq0, hq1⟩, hp3⟩ := pick_ok s0 hs p2 24 (by omega) (by omega) (by omega)
  simp only at hq0 hq1 hp3
  by_cases c1 : q = 1
  · subst c1
    obtain ⟨⟨n, p4⟩, hn, _, hp4⟩ := pick_ok s0 hs p3 (g.length : Int) (by omega) (by omega) (by omega)
    simp only at hp4
    have hrow := rdT_bound hgo.2 i
    obtain ⟨⟨o, p5⟩, ho, ho1, ho2, ho3⟩ := spoil_ok s0 hs p4 ((rd_T33 g i).f1 ++ [n]) 8 (by omega) (by omega) (by simp; omega)
    simp only at ho1 ho2 ho3
    have hnone : ∃ K, ∀ k, K ≤ k → spec_anyGraph.f k s0 p = none := by
      obtain ⟨K1, e1⟩ := hg
      obtain ⟨K2, e2⟩ := hi
      obtain ⟨K3, e3⟩ := hq
      obtain ⟨K4, e4⟩ := hn
      refine ⟨max (max K1 K2) (max K3 K4), fun k hk => ?_⟩
      have f1 := e1 k (by omega)
      have f2 := e2 k (by omega)
      have f3 := e3 k (by omega)
      have f4 := e4 k (by omega)
      simp only at f1 f2 f3 f4
      unfold spec_anyGraph.f
      rw [f1, Option.bind_some, if_neg (by simp only; omega)]
      simp only
      rw [f2, Option.bind_some]
      simp only
      rw [f3, Option.bind_some, if_neg (by simp only; omega), if_pos rfl, if_pos hi0, if_pos hi1]
      simp only
      rw [f4, Option.bind_some]
    have hone : Gives (fun k => any1 k s0 p) (tkSet g i o, p5) := by
      unfold any1
      refine Gives.bind hg (Gives.pos (by simp only; omega) (Gives.bind hi (Gives.bind hq (Gives.pos ⟨rfl, hi0, hi1, by simp only; omega⟩ (Gives.bind hn (Gives.bind ho (Gives.const _)))))))
    obtain ⟨K1, e1⟩ := hnone
    obtain ⟨K2, e2⟩ := hone
    have hol : o.length ≤ 10 := by simp at ho1; omega
    exact ⟨_, ⟨max K1 K2, fun k hk => hother k _ (e1 k (by omega)) (e2 k (by omega))⟩, (hgo.mono (by omega) (by omega)).set _ _ hol, by simp only; omega, by simp only; omega⟩
  have hrow := rdT_bound (fun t ht => Nat.le_trans (hgo.2 t ht) (show 8 ≤ 10 by omega)) i
  have hgo' : GOk 16 10 g := hgo.mono (by omega) (by omega)
  have : GP (fun k => spec_anyGraph.f k s0 p) (fun v => GOk 16 10 v.1 ∧ p ≤ v.2 ∧ v.2 ≤ p + 300) := by
    unfold spec_anyGraph.f
    refine GP.bind (GP.of hg (P := fun v => v = (g, p1)) rfl) ?_
    rintro v rfl
    refine GP.neg (by simp only; omega) ?_
    refine GP.bind (GP.of hi (P := fun v => v = (i, p2)) rfl) ?_
    rintro v rfl
    refine GP.bind (GP.of hq (P := fun v => v = (q, p3)) rfl) ?_
    rintro v rfl
    simp only
    refine GP.ite (fun _ => ?_) (fun _ => ?_)
    · refine GP.bind (one_ok s0 hs p3 _ (by omega) (by omega) (by simp)) ?_
      rintro ⟨a, b⟩ ⟨_, hc⟩
      simp only at hc
      exact GP.pos hi0 (GP.pos hi1 (GP.ret ⟨hgo'.set _ _ hrow, by simp only; omega, by simp only; omega⟩))
    refine GP.neg c1 ?_
    refine GP.ite (fun _ => ?_) (fun _ => ?_)
    · refine GP.bind (one_ok s0 hs p3 _ (by omega) (by omega) (by simp)) ?_
      rintro ⟨a, b⟩ ⟨_, hc⟩
      simp only at hc
      exact GP.pos hi0 (GP.pos hi1 (GP.ret ⟨hgo'.set _ _ hrow, by simp only; omega, by simp only; omega⟩))
    refine GP.ite (fun _ => ?_) (fun _ => ?_)
    · refine GP.bind (one_ok s0 hs p3 _ (by omega) (by omega) (by simp)) ?_
      rintro ⟨a, b⟩ ⟨_, hc⟩
      simp only at hc
      exact GP.pos hi0 (GP.pos hi1 (GP.ret ⟨hgo'.set _ _ hrow, by simp only; omega, by simp only; omega⟩))
    refine GP.ite (fun _ => ?_) (fun _ => GP.ret ⟨hgo', by simp only; omega, by simp only; omega⟩)
    refine GP.bind (someG_ok s0 hs p3 (by omega) (by omega)) ?_
    rintro ⟨g2, p4⟩ ⟨hg2, h4, h4'⟩
    simp only at hg2 h4 h4'
    have l1 := hgo.1
    have l2 := hg2.1
    simp only
    refine GP.pos (by omega) (GP.ret ⟨⟨by simp; omega, fun t ht => ?_⟩, by simp only; omega, by simp only; omega⟩)
    rcases List.mem_append.1 ht with ht | ht
    · exact hgo'.2 t ht
    exact Nat.le_trans (hg2.2 t ht) (by omega)
  obtain ⟨v, ⟨K, hK⟩, hv⟩ := this
  exact ⟨v, ⟨K, fun k hk => hsame k v (hK k hk)⟩, hv⟩
end Go.Proofs.YtaoeopeempmnnaaDoor

/-
  PLAIN: what is drawn, second part: plans, and what spec.DrawValidStarts answers: there is an answer, and its sizes are bounded.
-/
namespace Go.Proofs.YtaoeopeempmnnaaDoor
open Go Go.RowKit Go.Proofs.YtaoeopeempmnnaaDoor.M Go.Proofs.YtaoeopeempmnnaaDoorW.PrintWords Go.Proofs.YtaoeopeempmnnaaDoorW.PrintLast Go.Proofs.YtaoeopeempmnnaaDoorW.PrintMore Go.Proofs.YtaoeopeempmnnaaDoor.PA
set_option linter.unusedSimpArgs false
set_option linter.unusedVariables false
set_option linter.unusedSectionVars false

/-- All numbers are of tasks. -/
def InR (n : Nat) (l : List Int) : Prop := ∀ a ∈ l, 0 ≤ a ∧ a < (n : Int)
theorem InR.nil (n : Nat) : InR n [] := fun a h => by cases h
theorem InR.snoc {n : Nat} {l : List Int} {a : Int} (h : InR n l) (h0 : 0 ≤ a) (h1 : a < (n : Int)) : InR n (l ++ [a]) := fun x hx => by
  rcases List.mem_append.1 hx with hx | hx
  · exact h x hx
  rw [List.mem_singleton.1 hx]; exact ⟨h0, h1⟩
theorem InR.at {n : Nat} {l : List Int} (h : InR n l) (i : Int) (h0 : 0 ≤ i) (h1 : i < (l.length : Int)) : 0 ≤ rd l i ∧ rd l i < (n : Int) := h _ (rd_mem l i h0 h1)
theorem InR.set {n : Nat} {l : List Int} {a : Int} (h : InR n l) (i : Nat) (h0 : 0 ≤ a) (h1 : a < (n : Int)) : InR n (l.set i a) := fun x hx => by
  rcases List.mem_or_eq_of_mem_set hx with hx | hx
  · exact h x hx
  rw [hx]; exact ⟨h0, h1⟩

section
variable (g : List TkD) (h8 : g.length ≤ 8) (hb : ∀ t ∈ g, t.f1.length ≤ 10)
include h8

theorem runAt_ok (s : List Int) (now : Int) (hs : s.length = g.length) : ∀ (r i : Nat) (x : List Int), i + r = g.length → InR g.length x → x.length ≤ i →
    GP (fun k => spec_runningAt.l0 k g s now x (i : Int)) (fun v => InR g.length v ∧ v.length ≤ g.length)
  | 0, i, x, h, hx, hl => by
    refine GP.succ (fun k => by rw [spec_runningAt.l0]) ?_
    exact GP.neg (by omega) (GP.ret ⟨hx, by omega⟩)
  | r + 1, i, x, h, hx, hl => by
    refine GP.succ (fun k => by rw [spec_runningAt.l0]) ?_
    rw [wrap_succ i (by omega)]
    refine GP.pos (by omega) (GP.pos (by omega) (GP.pos (by omega) ?_))
    refine GP.ite (fun _ => GP.ite (fun _ => GP.pos (by omega) ?_) (fun _ => ?_)) (fun _ => ?_)
    · exact runAt_ok s now hs r (i + 1) _ (by omega) (hx.snoc (by omega) (by omega)) (by simp; omega)
    · exact runAt_ok s now hs r (i + 1) x (by omega) hx (by omega)
    exact runAt_ok s now hs r (i + 1) x (by omega) hx (by omega)

include hb
theorem ready_ok (d : List Int) (hd : d.length ≤ 100) : ∀ (r i : Nat) (x : List Int), i + r = g.length → InR g.length x → x.length ≤ i →
    GP (fun k => spec_ready.l0 k g d x (i : Int)) (fun v => InR g.length v ∧ v.length ≤ g.length)
  | 0, i, x, h, hx, hl => by
    refine GP.succ (fun k => by rw [spec_ready.l0]) ?_
    exact GP.neg (by omega) (GP.ret ⟨hx, by omega⟩)
  | r + 1, i, x, h, hx, hl => by
    refine GP.succ (fun k => by rw [spec_ready.l0]) ?_
    rw [wrap_succ i (by omega)]
    refine GP.pos (by omega) (GP.bind (GP.of (isIn_gives d (i : Int) (by omega)) (P := fun _ => True) trivial) (fun b _ => ?_))
    refine GP.ite (fun _ => ready_ok d hd r (i + 1) x (by omega) hx (by omega)) (fun _ => GP.pos (by omega) ?_)
    have hrow := rdT_bound hb (i : Int)
    refine GP.bind (GP.of (allDone_gives _ d (by omega) (by omega)) (P := fun _ => True) trivial) (fun b2 _ => ?_)
    refine GP.ite (fun _ => GP.pos (by omega) ?_) (fun _ => ?_)
    · exact ready_ok d hd r (i + 1) _ (by omega) (hx.snoc (by omega) (by omega)) (by simp; omega)
    exact ready_ok d hd r (i + 1) x (by omega) hx (by omega)
omit hb
theorem usedT (l : List Int) (p : Int) (hl : InR g.length l) (hl8 : l.length ≤ 1000) : ∀ (r i : Nat) (x : Int), i + r = l.length → GP (fun k => spec_used.l0 k g l p x (i : Int)) (fun _ => True)
  | 0, i, x, h => by
    refine GP.succ (fun k => by rw [spec_used.l0]) ?_
    exact GP.neg (by omega) (GP.ret trivial)
  | r + 1, i, x, h => by
    refine GP.succ (fun k => by rw [spec_used.l0]) ?_
    rw [wrap_succ i (by omega)]
    obtain ⟨b0, b1⟩ := hl.at (i : Int) (by omega) (by omega)
    refine GP.pos (by omega) (GP.pos (by omega) (GP.pos b0 (GP.pos b1 ?_)))
    exact GP.ite (fun _ => usedT l p hl hl8 r (i + 1) _ (by omega)) (fun _ => usedT l p hl hl8 r (i + 1) _ (by omega))
theorem admit_ok (room l : List Int) (wk : Int) (hr : room.length = 3) (hp : ∀ i : Int, 0 ≤ i → i < (g.length : Int) → 0 ≤ (rd_T33 g i).f2 ∧ (rd_T33 g i).f2 < 3) (hl : InR g.length l) (hl8 : l.length ≤ 100) :
    ∀ (r i : Nat) (x y : List Int), i + r = l.length → InR g.length x → InR g.length y → x.length ≤ i → y.length ≤ 100 + i →
    GP (fun k => spec_admit.l0 k g room l wk x y (i : Int)) (fun v => InR g.length v ∧ v.length ≤ l.length)
  | 0, i, x, y, h, hx, hy, hxl, hyl => by
    refine GP.succ (fun k => by rw [spec_admit.l0]) (GP.neg (by omega) ?_)
    refine GP.succ (fun k => by rw [spec_admit.j1]) (GP.neg (by simp) (GP.ret ⟨hx, by omega⟩))
  | r + 1, i, x, y, h, hx, hy, hxl, hyl => by
    refine GP.succ (fun k => by rw [spec_admit.l0]) (GP.pos (by omega) ?_)
    refine GP.succ (fun k => by rw [spec_admit.j1]) (GP.ite (fun _ => ?_) (fun _ => GP.ret ⟨hx, by omega⟩))
    rw [wrap_succ i (by omega)]
    obtain ⟨b0, b1⟩ := hl.at (i : Int) (by omega) (by omega)
    obtain ⟨p0, p1⟩ := hp _ b0 b1
    refine GP.pos (by omega) (GP.pos (by omega) (GP.pos b0 (GP.pos b1 (GP.bind (usedT g h8 y _ hy (by omega) y.length 0 0 (by omega)) (fun u _ => ?_)))))
    refine GP.pos p0 (GP.pos (by omega) (GP.ite (fun _ => GP.pos (by omega) (GP.pos (by omega) ?_)) (fun _ => ?_)))
    · exact admit_ok room l wk hr hp hl hl8 r (i + 1) _ _ (by omega) (hx.snoc b0 b1) (hy.snoc b0 b1) (by simp; omega) (by simp; omega)
    exact admit_ok room l wk hr hp hl hl8 r (i + 1) x y (by omega) hx hy (by omega) (by omega)
include hb
theorem tails_l1 (Q : List Int → Prop) (x3 x4 : List Int) (x5 x6 : Int) (h3 : x3.length = g.length) (h60 : 0 ≤ x6) (h61 : x6 < (g.length : Int))
    (hK : ∀ y : Int, GP (fun k => spec_tails.l0 k g (x3.set x6.toNat y) x4 (wrap64 (x5 - 1))) Q) : ∀ (r i : Nat) (x7 : Int), i + r = g.length → GP (fun k => spec_tails.l1 k g x3 x4 x5 x6 x7 (i : Int)) Q
  | 0, i, x7, h => by
    refine GP.succ (fun k => by rw [spec_tails.l1]) ?_
    exact GP.neg (by omega) (GP.pos h60 (GP.pos h61 (GP.pos (by omega) (hK _))))
  | r + 1, i, x7, h => by
    refine GP.succ (fun k => by rw [spec_tails.l1]) ?_
    rw [wrap_succ i (by omega)]
    have hrow := rdT_bound hb (i : Int)
    refine GP.pos (by omega) (GP.pos (by omega) (GP.bind (GP.of (isIn_gives _ x6 (by omega)) (P := fun _ => True) trivial) (fun b _ => ?_)))
    refine GP.ite (fun _ => GP.pos (by omega) ?_) (fun _ => ?_)
    · exact tails_l1 Q x3 x4 x5 x6 h3 h60 h61 hK r (i + 1) _ (by omega)
    exact tails_l1 Q x3 x4 x5 x6 h3 h60 h61 hK r (i + 1) _ (by omega)
theorem tails_l0 (x4 : List Int) (h4 : InR g.length x4) (h48 : x4.length ≤ 100) : ∀ (r : Nat) (x3 : List Int), x3.length = g.length → r ≤ x4.length → GP (fun k => spec_tails.l0 k g x3 x4 ((r : Int) - 1)) (fun v => v.length = g.length)
  | 0, x3, h3, hr => by
    refine GP.succ (fun k => by rw [spec_tails.l0]) ?_
    exact GP.neg (by omega) (GP.ret h3)
  | r + 1, x3, h3, hr => by
    refine GP.succ (fun k => by rw [spec_tails.l0]) ?_
    obtain ⟨b0, b1⟩ := h4.at (((r + 1 : Nat) : Int) - 1) (by omega) (by omega)
    refine GP.pos (by omega) (GP.pos (by omega) (GP.pos (by omega) ?_))
    refine tails_l1 g h8 hb _ x3 x4 _ _ h3 b0 b1 (fun y => ?_) g.length 0 0 (by omega)
    rw [show wrap64 (((r + 1 : Nat) : Int) - 1 - 1) = (r : Int) - 1 by unfold wrap64; omega]
    exact tails_l0 x4 h4 h48 r _ (by simpa using h3) (by omega)
theorem tails_ok (ms : List Nat) (hN : needsM g = some ms) : GP (fun k => spec_tails.f k g) (fun v => v.length = g.length) := by
  have hms : ms.length = g.length := by
    unfold needsM at hN
    split at hN
    · cases hN
    exact needsGo_length _ _ _ hN
  unfold spec_tails.f
  refine GP.pos (by omega) (GP.pos (by omega) ?_)
  have ht := topOrder_gives g ms hN (fun t ht => by have := hb t ht; omega)
  obtain ⟨hlt, hnd, _⟩ := orderM_spec ms
  have hin : InR g.length (ints (orderM ms).1) := by
    intro a ha
    unfold ints at ha
    obtain ⟨j, hj, rfl⟩ := List.mem_map.1 ha
    have := hlt j hj
    exact ⟨by omega, by omega⟩
  have hlen : (ints (orderM ms).1).length ≤ 8 := by
    rw [ints_length]
    exact Nat.le_trans (nodup_le ms.length _ hnd hlt) (by omega)
  refine GP.bind (GP.of ht (P := fun v => v = ints (orderM ms).1) rfl) ?_
  rintro v rfl
  rw [wrap_sm _ (by omega) (by omega)]
  exact tails_l0 g h8 hb _ hin (by omega) _ _ (by simp) (Nat.le_refl _)
omit hb
theorem sooner_ok (t : List Int) (ht : t.length = g.length) (a b : Int) (a0 : 0 ≤ a) (a1 : a < (g.length : Int)) (b0 : 0 ≤ b) (b1 : b < (g.length : Int)) : ∃ v, spec_sooner.f t a b = some v := by
  unfold spec_sooner.f
  rw [if_pos a0, if_pos (by omega), if_pos b0, if_pos (by omega)]
  split
  · exact ⟨_, rfl⟩
  split <;> exact ⟨_, rfl⟩
theorem byTail_l1 (Q : List Int → Prop) (l t : List Int) (x7 : Int) (ht : t.length = g.length) (L : Nat) (hL : L ≤ 100) (hK : ∀ x : List Int, InR g.length x → x.length = L → GP (fun k => spec_byTail.l0 k l x t (wrap64 (x7 + 1))) Q) :
    ∀ (r : Nat) (x : List Int), InR g.length x → x.length = L → r < L ∨ r = 0 → GP (fun k => spec_byTail.l1 k l x t x7 (r : Int)) Q
  | 0, x, hx, hl, hr => by
    refine GP.succ (fun k => by rw [spec_byTail.l1]) ?_
    exact GP.neg (by omega) (hK x hx hl)
  | r + 1, x, hx, hl, hr => by
    refine GP.succ (fun k => by rw [spec_byTail.l1]) ?_
    have hw : wrap64 (((r + 1 : Nat) : Int) - 1) = (r : Int) := by unfold wrap64; omega
    rw [hw]
    obtain ⟨b0, b1⟩ := hx.at (r : Int) (by omega) (by omega)
    obtain ⟨c0, c1⟩ := hx.at ((r + 1 : Nat) : Int) (by omega) (by omega)
    obtain ⟨v, hv⟩ := sooner_ok g h8 t ht _ _ c0 c1 b0 b1
    refine GP.pos (by omega) (GP.pos (by omega) (GP.pos (by omega) (GP.pos (by omega) (GP.pos (by omega) (GP.bind (GP.now hv (Q := fun _ => True) trivial) (fun b _ => ?_))))))
    refine GP.ite (fun _ => ?_) (fun _ => hK x hx hl)
    exact byTail_l1 Q l t x7 ht L hL hK r _ ((hx.set _ b0 b1).set _ c0 c1) (by simpa using hl) (by omega)
theorem byTail_l0 (l t : List Int) (hl : InR g.length l) (hl8 : l.length ≤ 100) (ht : t.length = g.length) : ∀ (r i : Nat) (x : List Int), i + r = l.length → InR g.length x → x.length = i →
    GP (fun k => spec_byTail.l0 k l x t (i : Int)) (fun v => InR g.length v ∧ v.length = l.length)
  | 0, i, x, h, hx, hxl => by
    refine GP.succ (fun k => by rw [spec_byTail.l0]) ?_
    exact GP.neg (by omega) (GP.ret ⟨hx, by omega⟩)
  | r + 1, i, x, h, hx, hxl => by
    refine GP.succ (fun k => by rw [spec_byTail.l0]) ?_
    obtain ⟨b0, b1⟩ := hl.at (i : Int) (by omega) (by omega)
    refine GP.pos (by omega) (GP.pos (by omega) (GP.pos (by omega) (GP.bind (GP.now rfl (Q := fun v => v = x ++ [rd l (i : Int)]) rfl) ?_)))
    rintro v rfl
    have hlen : (x ++ [rd l (i : Int)]).length = i + 1 := by simp [hxl]
    have hw : wrap64 (((x ++ [rd l (i : Int)]).length : Int) - 1) = (i : Int) := by rw [hlen]; unfold wrap64; omega
    rw [hw]
    refine byTail_l1 g h8 _ l t (i : Int) ht (i + 1) (by omega) (fun y hy hyl => ?_) i _ (hx.snoc b0 b1) hlen (by omega)
    rw [wrap_succ i (by omega)]
    exact byTail_l0 l t hl hl8 ht r (i + 1) y (by omega) hy hyl

/-! ### plan -/
theorem plan_l4 (Q : List Int → Prop) (room : List Int) (wk x9 : Int) (nx : List Int) (hn : InR g.length nx) (hn8 : nx.length ≤ 100) (hK : ∀ s : List Int, s.length = g.length → GP (fun k => spec_plan.l1 k g room wk s (wrap64 (x9 + 1))) Q) :
    ∀ (r i : Nat) (s : List Int), i + r = nx.length → s.length = g.length → GP (fun k => spec_plan.l4 k g room wk s x9 nx (i : Int)) Q
  | 0, i, s, h, hs => by
    refine GP.succ (fun k => by rw [spec_plan.l4]) ?_
    exact GP.neg (by omega) (hK s hs)
  | r + 1, i, s, h, hs => by
    refine GP.succ (fun k => by rw [spec_plan.l4]) ?_
    obtain ⟨b0, b1⟩ := hn.at (i : Int) (by omega) (by omega)
    rw [wrap_succ i (by omega)]
    exact GP.pos (by omega) (GP.pos (by omega) (GP.pos b0 (GP.pos (by omega) (plan_l4 Q room wk x9 nx hn hn8 hK r (i + 1) _ (by omega) (by simpa using hs)))))
include hb
theorem plan_l3 (Q : List Int → Prop) (ms : List Nat) (hN : needsM g = some ms) (room : List Int) (wk x9 : Int) (hr : room.length = 3) (hp : ∀ i : Int, 0 ≤ i → i < (g.length : Int) → 0 ≤ (rd_T33 g i).f2 ∧ (rd_T33 g i).f2 < 3)
    (s cn : List Int) (hs : s.length = g.length) (hc : InR g.length cn) (hc8 : cn.length ≤ 50) (hK : ∀ s : List Int, s.length = g.length → GP (fun k => spec_plan.l1 k g room wk s (wrap64 (x9 + 1))) Q) :
    ∀ (r i : Nat) (x : List Int), i + r = cn.length → InR g.length x → x.length ≤ i → GP (fun k => spec_plan.l3 k g room wk s x9 x cn (i : Int)) Q
  | 0, i, x, h, hx, hxl => by
    refine GP.succ (fun k => by rw [spec_plan.l3]) (GP.neg (by omega) ?_)
    refine GP.bind (runAt_ok g h8 s x9 hs g.length 0 [] (by omega) (InR.nil _) (by simp)) ?_
    rintro now ⟨n1, n2⟩
    refine GP.bind (F := fun k => spec_byTail.f k g x) (P := fun v => InR g.length v ∧ v.length = x.length) ?_ ?_
    · unfold spec_byTail.f
      refine GP.bind (tails_ok g h8 hb ms hN) (fun t ht => ?_)
      exact byTail_l0 g h8 x t hx (by omega) ht x.length 0 [] (by omega) (InR.nil _) rfl
    rintro l ⟨l1, l2⟩
    refine GP.bind (F := fun k => spec_admit.f k g room now l wk) (P := fun v => InR g.length v ∧ v.length ≤ l.length) ?_ ?_
    · unfold spec_admit.f
      refine GP.bind (GP.now (copy_ok now (by omega)) (Q := fun v => v = now) rfl) ?_
      rintro v rfl
      exact admit_ok g h8 room l wk hr hp l1 (by omega) l.length 0 [] v (by omega) (InR.nil _) n1 (by simp) (by omega)
    rintro nx ⟨x1, x2⟩
    exact plan_l4 g h8 Q room wk x9 nx x1 (by omega) hK nx.length 0 s (by omega) hs
  | r + 1, i, x, h, hx, hxl => by
    refine GP.succ (fun k => by rw [spec_plan.l3]) ?_
    obtain ⟨b0, b1⟩ := hc.at (i : Int) (by omega) (by omega)
    rw [wrap_succ i (by omega)]
    refine GP.pos (by omega) (GP.pos (by omega) (GP.pos b0 (GP.pos (by omega) (GP.ite (fun _ => GP.pos (by omega) ?_) (fun _ => ?_)))))
    · exact plan_l3 Q ms hN room wk x9 hr hp s cn hs hc hc8 hK r (i + 1) _ (by omega) (hx.snoc b0 b1) (by simp; omega)
    exact plan_l3 Q ms hN room wk x9 hr hp s cn hs hc hc8 hK r (i + 1) _ (by omega) hx (by omega)
theorem plan_l2 (Q : List Int → Prop) (ms : List Nat) (hN : needsM g = some ms) (room : List Int) (wk x9 : Int) (hr : room.length = 3) (hp : ∀ i : Int, 0 ≤ i → i < (g.length : Int) → 0 ≤ (rd_T33 g i).f2 ∧ (rd_T33 g i).f2 < 3)
    (s : List Int) (hs : s.length = g.length) (hK : ∀ s : List Int, s.length = g.length → GP (fun k => spec_plan.l1 k g room wk s (wrap64 (x9 + 1))) Q) :
    ∀ (r i : Nat) (x : List Int), i + r = g.length → x.length ≤ i → GP (fun k => spec_plan.l2 k g room wk s x9 x (i : Int)) Q
  | 0, i, x, h, hxl => by
    refine GP.succ (fun k => by rw [spec_plan.l2]) (GP.neg (by omega) ?_)
    refine GP.bind (ready_ok g h8 hb x (by omega) g.length 0 [] (by omega) (InR.nil _) (by simp)) ?_
    rintro cn ⟨c1, c2⟩
    exact plan_l3 g h8 hb Q ms hN room wk x9 hr hp s cn hs c1 (by omega) hK cn.length 0 [] (by omega) (InR.nil _) (by simp)
  | r + 1, i, x, h, hxl => by
    refine GP.succ (fun k => by rw [spec_plan.l2]) ?_
    rw [wrap_succ i (by omega)]
    refine GP.pos (by omega) (GP.pos (by omega) (GP.pos (by omega) (GP.ite (fun _ => GP.pos (by omega) ?_) (fun _ => ?_))))
    · exact plan_l2 Q ms hN room wk x9 hr hp s hs hK r (i + 1) _ (by omega) (by simp; omega)
    exact plan_l2 Q ms hN room wk x9 hr hp s hs hK r (i + 1) _ (by omega) (by omega)
theorem plan_l1 (ms : List Nat) (hN : needsM g = some ms) (room : List Int) (wk : Int) (hr : room.length = 3) (hp : ∀ i : Int, 0 ≤ i → i < (g.length : Int) → 0 ≤ (rd_T33 g i).f2 ∧ (rd_T33 g i).f2 < 3) :
    ∀ (r i : Nat) (s : List Int), i + r = 200 → s.length = g.length → GP (fun k => spec_plan.l1 k g room wk s (i : Int)) (fun v => v.length = g.length)
  | 0, i, s, h, hs => by
    refine GP.succ (fun k => by rw [spec_plan.l1]) ?_
    exact GP.neg (by omega) (GP.ret hs)
  | r + 1, i, s, h, hs => by
    refine GP.succ (fun k => by rw [spec_plan.l1]) ?_
    refine GP.pos (by omega) (plan_l2 g h8 hb _ ms hN room wk (i : Int) hr hp s hs (fun s' hs' => ?_) g.length 0 [] (by omega) (by simp))
    rw [wrap_succ i (by omega)]
    exact plan_l1 ms hN room wk hr hp r (i + 1) s' (by omega) hs'
theorem plan_l0 (ms : List Nat) (hN : needsM g = some ms) (room : List Int) (wk : Int) (hr : room.length = 3) (hp : ∀ i : Int, 0 ≤ i → i < (g.length : Int) → 0 ≤ (rd_T33 g i).f2 ∧ (rd_T33 g i).f2 < 3) :
    ∀ (r i : Nat) (s : List Int), i + r = g.length → s.length = g.length → GP (fun k => spec_plan.l0 k g room wk s (i : Int)) (fun v => v.length = g.length)
  | 0, i, s, h, hs => by
    refine GP.succ (fun k => by rw [spec_plan.l0]) ?_
    exact GP.neg (by omega) (plan_l1 g h8 hb ms hN room wk hr hp 200 0 s (by omega) hs)
  | r + 1, i, s, h, hs => by
    refine GP.succ (fun k => by rw [spec_plan.l0]) ?_
    rw [wrap_succ i (by omega)]
    exact GP.pos (by omega) (GP.pos (by omega) (plan_l0 ms hN room wk hr hp r (i + 1) _ (by omega) (by simpa using hs)))
end

theorem planStarts_ok (g : List TkD) (hg : g.length ≤ 16) (hb : ∀ t ∈ g, t.f1.length ≤ 10) (room : List Int) (hr : room.length ≤ 10) (wk : Int) : GP (fun k => spec_PlanStarts.f k g room wk) (fun v => v.length ≤ 8) := by
  unfold spec_PlanStarts.f
  refine GP.bind (GP.of (validGraph_gives g (by omega) (fun t ht => by have := hb t ht; omega)) (P := fun v => v = (gOf g).isSome) rfl) ?_
  rintro v rfl
  refine GP.ite (fun h1 => ?_) (fun _ => GP.ret (by simp))
  refine GP.bind (GP.of (validRoom_gives room (by omega)) (P := fun v => v = roomB room) rfl) ?_
  rintro v rfl
  refine GP.ite (fun h2 => ?_) (fun _ => GP.ret (by simp))
  refine GP.bind (GP.now (inRange_f wk 1 4) (Q := fun v => v = withinB wk 1 4) rfl) ?_
  rintro v rfl
  refine GP.ite (fun h3 => ?_) (fun _ => GP.ret (by simp))
  obtain ⟨ms, ord, hpl, hK⟩ := known_of h1 h2 h3
  have hn8 := hK.h8
  have hr3 : room.length = 3 := by
    unfold roomB at h2
    simp only [Bool.and_eq_true, decide_eq_true_eq] at h2
    omega
  refine GP.bind (P := fun v => v.length ≤ 8) ?_ (fun v hv => GP.ret hv)
  unfold spec_plan.f
  refine GP.pos (by omega) (GP.pos (by omega) ?_)
  refine (plan_l0 g hn8 hb ms hK.hn room wk hr3 (fun i h0 h1 => ?_) g.length 0 _ (by omega) (by simp)).mono (fun v hv => by omega)
  have := hK.ht i.toNat (by omega)
  rw [show ((i.toNat : Nat) : Int) = i by omega] at this
  omega

theorem someL0_ok (s0 : List Int) (hs : Rdr s0) (room : List Int) (wk : Int) : ∀ (r : Nat) (st : List Int) (p : Int), r ≤ 100 → st.length ≤ 8 → 0 ≤ p → p + 2 * r ≤ 90000 →
    GP (fun k => spec_someStarts.l0 k room wk st (r : Int) s0 p) (fun v => v.1 = room ∧ v.2.1 = wk ∧ v.2.2.1.length ≤ 8 ∧ 0 ≤ v.2.2.2 ∧ v.2.2.2 ≤ p + 2 * r)
  | 0, st, p, hr, hst, hp0, hp1 => by
    refine GP.succ (fun k => by rw [spec_someStarts.l0]) (GP.neg (by omega) ?_)
    refine GP.succ (fun k => by rw [spec_someStarts.j1]) (GP.neg (by simp) (GP.ret ⟨rfl, rfl, hst, by simp only; omega, by simp only; omega⟩))
  | r + 1, st, p, hr, hst, hp0, hp1 => by
    refine GP.succ (fun k => by rw [spec_someStarts.l0]) (GP.pos (by omega) ?_)
    refine GP.succ (fun k => by rw [spec_someStarts.j1]) (GP.ite (fun hpos => ?_) (fun _ => GP.ret ⟨rfl, rfl, hst, by simp only; omega, by simp only; omega⟩))
    have hpos' : (st.length : Int) > 0 := by simpa using hpos
    refine GP.bind (pick_ok s0 hs p (st.length : Int) hp0 (by omega) (by omega)) ?_
    rintro ⟨a, b⟩ ⟨⟨ha, hb⟩, hc⟩
    simp only at ha hb hc
    refine GP.pos ha (GP.pos hb (GP.bind (one_ok s0 hs b _ (by omega) (by omega) (by simp)) ?_))
    rintro ⟨a2, b2⟩ ⟨_, hc2⟩
    simp only at hc2
    rw [show wrap64 (((r + 1 : Nat) : Int) - 1) = (r : Int) by unfold wrap64; omega]
    refine (someL0_ok s0 hs room wk r _ b2 (by omega) (by simpa using hst) (by omega) (by omega)).mono ?_
    rintro v ⟨v1, v2, v3, v4, v5⟩
    exact ⟨v1, v2, v3, v4, by omega⟩

/-- What is drawn is small. -/
structure DOk (v : List TkD × List Int × Int × List Int) : Prop where
  hg : GOk 16 10 v.1
  hr : v.2.1.length ≤ 8
  hs : v.2.2.2.length ≤ 8

theorem newReader_ok (l0 : List Int) (hw : ∀ x ∈ l0, (Lit.int .u8 x).wf = true) : ∃ s0, spec_newReader.f l0 = some (s0, 0) ∧ Rdr s0 := by
  have hbt : ∀ x ∈ l0, 0 ≤ x ∧ x ≤ 255 := by
    intro x hx
    have := hw x hx
    have h2 : (decide (IntKind.u8.min ≤ x) && decide (x ≤ IntKind.u8.max)) = true := this
    simp only [Bool.and_eq_true, decide_eq_true_eq] at h2
    rw [show IntKind.u8.min = 0 by decide, show IntKind.u8.max = 255 by decide] at h2
    exact h2
  unfold spec_newReader.f
  by_cases h : (l0.length : Int) > 2000
  · rw [if_pos h, if_pos (by omega)]
    exact ⟨_, rfl, ⟨by simp; omega, fun x hx => hbt x (List.mem_of_mem_take hx)⟩⟩
  rw [if_neg h]
  exact ⟨_, rfl, ⟨by omega, hbt⟩⟩

theorem drawK_ok (l0 : List Int) (hw : ∀ x ∈ l0, (Lit.int .u8 x).wf = true) : GP (fun k => drawK k l0) DOk := by
  obtain ⟨s0, h1, hs⟩ := newReader_ok l0 hw
  unfold drawK
  refine GP.bind (GP.now h1 (Q := fun v => v = (s0, 0)) rfl) ?_
  rintro v rfl
  refine GP.bind (any_ok s0 hs 0 (by omega) (by omega)) ?_
  rintro ⟨g, p⟩ ⟨hg, hp0, hp1⟩
  simp only at hg hp0 hp1
  refine GP.bind (F := fun k => spec_someStarts.f k s0 p g) (P := fun v => v.1.length ≤ 8 ∧ v.2.2.1.length ≤ 8) ?_ ?_
  · unfold spec_someStarts.f
    refine GP.bind (F := fun k => spec_someRoom.f k s0 p) (P := fun v => v.1.length ≤ 4 ∧ 0 ≤ v.2 ∧ v.2 ≤ 1000) ?_ ?_
    · unfold spec_someRoom.f
      refine GP.bind (one_ok s0 hs p _ (by omega) (by omega) (by simp)) ?_
      rintro ⟨a, b⟩ ⟨_, hc⟩
      simp only at hc
      refine GP.bind (one_ok s0 hs b _ (by omega) (by omega) (by simp)) ?_
      rintro ⟨a2, b2⟩ ⟨_, hc2⟩
      simp only at hc2
      refine GP.bind (one_ok s0 hs b2 _ (by omega) (by omega) (by simp)) ?_
      rintro ⟨a3, b3⟩ ⟨_, hc3⟩
      simp only at hc3
      refine GP.bind (spoil_ok s0 hs b3 _ 9 (by omega) (by omega) (by simp)) ?_
      rintro ⟨o, p'⟩ ⟨h1, h2, h3⟩
      simp only [List.length_cons, List.length_nil] at h1 h2 h3
      exact GP.ret ⟨by simp only; omega, by simp only; omega, by simp only; omega⟩
    rintro ⟨room, p1⟩ ⟨hr, hq0, hq1⟩
    simp only at hr hq0 hq1
    refine GP.bind (F := fun k => spec_someWorkers.f k s0 p1) (P := fun v => v.2 = p1 + 1) ?_ ?_
    · unfold spec_someWorkers.f
      refine GP.bind (one_ok s0 hs p1 _ (by omega) (by omega) (by simp)) ?_
      rintro ⟨a, b⟩ ⟨_, hc⟩
      exact GP.ret hc
    rintro ⟨wk, p2⟩ hq
    simp only at hq
    refine GP.bind (planStarts_ok g hg.1 hg.2 room (by omega) wk) (fun st hst => ?_)
    refine GP.bind (pick_ok s0 hs p2 3 (by omega) (by omega) (by omega)) ?_
    rintro ⟨n, p3⟩ ⟨⟨hn0, hn1⟩, hc⟩
    simp only at hn0 hn1 hc
    have := someL0_ok s0 hs room wk n.toNat st p3 (by omega) hst (by omega) (by omega)
    rw [show ((n.toNat : Nat) : Int) = n by omega] at this
    refine this.mono ?_
    rintro v ⟨v1, v2, v3, v4, v5⟩
    exact ⟨by rw [v1]; omega, v3⟩
  rintro ⟨room, wk, st, p3⟩ ⟨hr, hst⟩
  exact GP.ret ⟨hg, hr, hst⟩

theorem draw_ok (l0 : List Int) (hw : ∀ x ∈ l0, (Lit.int .u8 x).wf = true) : ∃ v, spec_DrawValidStarts.f l0 = some v ∧ DOk v := by
  obtain ⟨v, h1, h2⟩ := drawK_ok l0 hw
  exact ⟨v, draw_some h1, h2⟩
end Go.Proofs.YtaoeopeempmnnaaDoor

/-
  MeetsDeadline: its contract.
-/
namespace Go.Proofs.YtaoeopeempmnnaaDoor
open Go Go.RowKit Go.Proofs.YtaoeopeempmnnaaDoor.M Go.Proofs.YtaoeopeempmnnaaDoorW.PrintWords Go.Proofs.YtaoeopeempmnnaaDoorW.PrintLast Go.Proofs.YtaoeopeempmnnaaDoorW.PrintMore Go.Proofs.YtaoeopeempmnnaaDoor.PA
set_option linter.unusedSimpArgs false
set_option linter.unusedVariables false

def meetsM (g : List Tk) (room : List Int) (workers : Int) (start : List Int) (d : Int) : Bool := (startsM g room workers start).isSome && (withinB d 0 200 && decide (endM g start ≤ d))

end Go.Proofs.YtaoeopeempmnnaaDoor

/-
  PLAIN: spec.MeetsDeadline answers as the model of impl.MeetsDeadline.
-/
namespace Go.Proofs.YtaoeopeempmnnaaDoor
open Go Go.RowKit Go.Proofs.YtaoeopeempmnnaaDoor.M Go.Proofs.YtaoeopeempmnnaaDoorW.PrintWords Go.Proofs.YtaoeopeempmnnaaDoorW.PrintLast Go.Proofs.YtaoeopeempmnnaaDoorW.PrintMore Go.Proofs.YtaoeopeempmnnaaDoor.PA
set_option linter.unusedSimpArgs false
set_option linter.unusedVariables false

end Go.Proofs.YtaoeopeempmnnaaDoor

/-
  PLAIN: what valid beginnings are like: when they are moved, when there is more room, when the last task is over.
-/
namespace Go.Proofs.YtaoeopeempmnnaaDoor
open Go Go.RowKit Go.Proofs.YtaoeopeempmnnaaDoor.M Go.Proofs.YtaoeopeempmnnaaDoorW.PrintWords Go.Proofs.YtaoeopeempmnnaaDoorW.PrintLast Go.Proofs.YtaoeopeempmnnaaDoorW.PrintMore Go.Proofs.YtaoeopeempmnnaaDoor.PA
set_option linter.unusedSimpArgs false
set_option linter.unusedVariables false

theorem DOk.small {g : List TkD} {room st : List Int} {wk : Int} (h : DOk (g, room, wk, st)) : g.length < 4611686018427387904 ∧ (∀ t ∈ g, t.f1.length < 4611686018427387904) ∧ room.length < 4611686018427387904 ∧ st.length < 4611686018427387904 := by
  have h1 := h.hg.1
  have h2 := h.hr
  have h3 := h.hs
  simp only at h1 h2 h3
  exact ⟨by omega, fun t ht => Nat.lt_of_le_of_lt (h.hg.2 t ht) (by decide), by omega, by omega⟩
theorem rd_get (l : List Int) (i : Nat) (h : i < l.length) : rd l (i : Int) = l[i] := by
  unfold rd
  rw [List.getD_eq_getElem?_getD, List.getElem?_eq_getElem (show (i : Int).toNat < l.length by omega)]
  simp
/-- What valid beginnings are. -/
structure Fine (g : List TkD) (room : List Int) (wk : Int) (st : List Int) : Prop where
  hgo : (gOf g).isSome = true
  hro : roomB room = true
  hwk : withinB wk 1 4 = true
  hlen : st.length = g.length
  hin : ∀ i : Nat, i < g.length → 0 ≤ rd st (i : Int) ∧ rd st (i : Int) ≤ 200
  hgood : ∀ i : Nat, i < g.length → goodB g room wk st i = true
theorem fine_iff (g : List TkD) (room : List Int) (wk : Int) (st : List Int) : specB g room wk st = true ↔ Fine g room wk st := by
  unfold specB
  simp only [Bool.and_eq_true, decide_eq_true_eq]
  constructor
  · rintro ⟨h1, h2, h3, h4, h5, h6⟩
    refine ⟨h1, h2, h3, h4, fun i hi => within_start h5 i (by omega), fun i hi => List.all_eq_true.1 h6 i (by rw [List.mem_range'_1]; omega)⟩
  rintro ⟨h1, h2, h3, h4, h5, h6⟩
  refine ⟨h1, h2, h3, h4, List.all_eq_true.2 fun x hx => ?_, List.all_eq_true.2 fun i hi => h6 i (by rw [List.mem_range'_1] at hi; omega)⟩
  obtain ⟨i, hi, rfl⟩ := List.getElem_of_mem hx
  have := h5 i (by omega)
  rw [rd_get st i hi] at this
  exact (withinB_iff' _ _ _).2 this
theorem starts_fine (g : List TkD) (room : List Int) (wk : Int) (st : List Int) : (startsM g room wk st).isSome = true ↔ Fine g room wk st := by rw [starts_spec]; exact fine_iff g room wk st
theorem Fine.known {g : List TkD} {room : List Int} {wk : Int} {st : List Int} (h : Fine g room wk st) : ∃ ms ord, Known g ms ord := by
  obtain ⟨ms, ord, _, hK⟩ := known_of h.hgo h.hro h.hwk
  exact ⟨ms, ord, hK⟩
theorem Fine.h8 {g : List TkD} {room : List Int} {wk : Int} {st : List Int} (h : Fine g room wk st) : g.length ≤ 8 := by
  obtain ⟨ms, ord, hK⟩ := h.known
  exact hK.h8
theorem Fine.time {g : List TkD} {room : List Int} {wk : Int} {st : List Int} (h : Fine g room wk st) (i : Nat) (hi : i < g.length) : 1 ≤ (rd_T33 g (i : Int)).f0 ∧ (rd_T33 g (i : Int)).f0 ≤ 20 := by
  obtain ⟨ms, ord, hK⟩ := h.known
  have := hK.ht i hi
  omega
theorem Fine.over {g : List TkD} {room : List Int} {wk : Int} {st : List Int} (h : Fine g room wk st) (i : Nat) (hi : i < g.length) :
    wrap64 (rd st (i : Int) + (rd_T33 g (i : Int)).f0) = rd st (i : Int) + (rd_T33 g (i : Int)).f0 ∧ 1 ≤ rd st (i : Int) + (rd_T33 g (i : Int)).f0 ∧ rd st (i : Int) + (rd_T33 g (i : Int)).f0 ≤ 220 := by
  have h1 := h.time i hi
  have h2 := h.hin i hi
  refine ⟨wrap_sm _ (by omega) (by omega), by omega, by omega⟩
theorem Fine.end_go {g : List TkD} {room : List Int} {wk : Int} {st : List Int} (h : Fine g room wk st) : ∀ i : Nat, i ≤ g.length →
    (0 ≤ endGo g st i ∧ endGo g st i ≤ 220) ∧ (∀ j : Nat, j < i → rd st (j : Int) + (rd_T33 g (j : Int)).f0 ≤ endGo g st i) ∧ (0 < i → ∃ j : Nat, j < i ∧ endGo g st i = rd st (j : Int) + (rd_T33 g (j : Int)).f0)
  | 0, _ => ⟨by simp [endGo], fun j hj => absurd hj (by omega), fun hp => absurd hp (by omega)⟩
  | i + 1, hi => by
    obtain ⟨⟨a0, a1⟩, hb, hc⟩ := h.end_go i (by omega)
    obtain ⟨e1, e2, e3⟩ := h.over i (by omega)
    have hE : endGo g st (i + 1) = max (endGo g st i) (rd st (i : Int) + (rd_T33 g (i : Int)).f0) := by rw [endGo, e1]
    refine ⟨by omega, fun j hj => ?_, fun _ => ?_⟩
    · by_cases hji : j = i
      · subst hji; omega
      have := hb j (by omega); omega
    by_cases hle : endGo g st i ≤ rd st (i : Int) + (rd_T33 g (i : Int)).f0
    · exact ⟨i, by omega, by omega⟩
    have hip : 0 < i := by
      refine Nat.pos_of_ne_zero fun h0 => ?_
      subst h0
      have : endGo g st 0 = 0 := rfl
      omega
    obtain ⟨j, hj, hj2⟩ := hc hip
    exact ⟨j, by omega, by omega⟩
structure EndIs (g : List TkD) (st : List Int) (n : Int) : Prop where
  h0 : 0 ≤ n
  h1 : n ≤ 220
  hge : ∀ j : Nat, j < g.length → rd st (j : Int) + (rd_T33 g (j : Int)).f0 ≤ n
  hat : 0 < g.length → ∃ j : Nat, j < g.length ∧ n = rd st (j : Int) + (rd_T33 g (j : Int)).f0
  hz : g.length = 0 → n = 0
theorem Fine.end {g : List TkD} {room : List Int} {wk : Int} {st : List Int} (h : Fine g room wk st) : EndIs g st (endM g st) := by
  unfold endM
  rw [h.hlen]
  obtain ⟨⟨a0, a1⟩, hb, hc⟩ := h.end_go g.length (Nat.le_refl _)
  exact ⟨a0, a1, hb, hc, fun hz => by rw [hz]; rfl⟩
theorem endTime_fine {g : List TkD} {room : List Int} {wk : Int} {st : List Int} (h : Fine g room wk st) : endTimeM g room wk st = endM g st := by
  unfold endTimeM
  rw [if_pos ((starts_fine g room wk st).2 h)]
theorem endTime_not {g : List TkD} {room : List Int} {wk : Int} {st : List Int} (h : ¬ Fine g room wk st) : endTimeM g room wk st = -1 := by
  unfold endTimeM
  rw [if_neg (fun hc => h ((starts_fine g room wk st).1 hc))]
end Go.Proofs.YtaoeopeempmnnaaDoor

/-
  CONTRACTS IN THE FORM OF THE PRINT: impl's functions that the laws call.
-/
namespace Go.Proofs.YtaoeopeempmnnaaDoor
open Go Go.RowKit Go.Proofs.YtaoeopeempmnnaaDoor.M Go.Proofs.YtaoeopeempmnnaaDoorW.PrintWords Go.Proofs.YtaoeopeempmnnaaDoorW.PrintLast Go.Proofs.YtaoeopeempmnnaaDoorW.PrintMore Go.Proofs.YtaoeopeempmnnaaDoor.PA
set_option linter.unusedSimpArgs false
set_option linter.unusedVariables false

def impl_ValidStarts.f (g : List Tk) (room : List Int) (workers : Int) (start : List Int) : Option Bool := some (startsM g room workers start).isSome
def impl_EndTime.f (g : List Tk) (room : List Int) (workers : Int) (start : List Int) : Option Int := some (endTimeM g room workers start)
theorem impl_EndTime.calls (A0 : Option Addr) (c0 : Nat) (l0 : List Tk) (A1 : Option Addr) (c1 : Nat) (l1 : List Int) (a2 : Int) (A3 : Option Addr) (c3 : Nat) (l3 : List Int) (r : Int) (w : World) (hT : Tab w) (hr0 : Kd.C k33 w A0 l0.length l0) (hc0 : l0.length ≤ c0) (hr1 : Kd.C (Kd.int .i64) w A1 l1.length l1) (hc1 : l1.length ≤ c1) (hr3 : Kd.C (Kd.int .i64) w A3 l3.length l3) (hc3 : l3.length ≤ c3) (h : impl_EndTime.f l0 l1 a2 l3 = some r) :
    Calls Tryd.prog 23 #[.slice A0 l0.length c0, .slice A1 l1.length c1, .int .i64 a2, .slice A3 l3.length c3] w fun e w' => e = .returned (.int .i64 r) ∧ Below w.heap.size w w' := by
  cases h
  exact endTime_calls A0 c0 l0 A1 c1 l1 a2 A3 c3 l3 w hT hr0 hc0 hr1 hc1 hr3 hc3

def impl_MeetsDeadline.f (g : List Tk) (room : List Int) (workers : Int) (start : List Int) (d : Int) : Option Bool := some (meetsM g room workers start d)
end Go.Proofs.YtaoeopeempmnnaaDoor

/-
  CancelAt: its contract.
-/
namespace Go.Proofs.YtaoeopeempmnnaaDoor
open Go Go.RowKit Go.Proofs.YtaoeopeempmnnaaDoor.M Go.Proofs.YtaoeopeempmnnaaDoorW.PrintWords Go.Proofs.YtaoeopeempmnnaaDoorW.PrintLast Go.Proofs.YtaoeopeempmnnaaDoorW.PrintMore Go.Proofs.YtaoeopeempmnnaaDoor.PA
set_option linter.unusedSimpArgs false
set_option linter.unusedVariables false

def cancelC (g : List Tk) (start : List Int) (now : Int) (i : Nat) : Int :=
  if wrap64 (rd start (i : Int) + (rd_T33 g (i : Int)).f0) ≤ now then 0 else if rd start (i : Int) < now then 1 else 3
def cancelM (g : List Tk) (room : List Int) (workers : Int) (start : List Int) (now : Int) : List Int :=
  if (startsM g room workers start).isSome = true then (if withinB now 0 200 = true then (List.range g.length).map (cancelC g start now) else []) else []

end Go.Proofs.YtaoeopeempmnnaaDoor

/-
  LogOf: its contract.
-/
namespace Go.Proofs.YtaoeopeempmnnaaDoor
open Go Go.RowKit Go.Proofs.YtaoeopeempmnnaaDoor.M Go.Proofs.YtaoeopeempmnnaaDoorW.PrintWords Go.Proofs.YtaoeopeempmnnaaDoorW.PrintLast Go.Proofs.YtaoeopeempmnnaaDoorW.PrintMore Go.Proofs.YtaoeopeempmnnaaDoor.PA
set_option linter.unusedSimpArgs false
set_option linter.unusedVariables false

abbrev Evt := S42
def evOf (e : Ev) : Evt := ⟨e.tm, e.task, e.over⟩
def logM (g : List Tk) (room : List Int) (workers : Int) (start : List Int) : List Evt :=
  if (startsM g room workers start).isSome = true then (evsM g start).map evOf else []

end Go.Proofs.YtaoeopeempmnnaaDoor

/-
  CONTRACTS IN THE FORM OF THE PRINT: CancelAt, LogOf.
-/
namespace Go.Proofs.YtaoeopeempmnnaaDoor
open Go Go.RowKit Go.Proofs.YtaoeopeempmnnaaDoor.M Go.Proofs.YtaoeopeempmnnaaDoorW.PrintWords Go.Proofs.YtaoeopeempmnnaaDoorW.PrintLast Go.Proofs.YtaoeopeempmnnaaDoorW.PrintMore Go.Proofs.YtaoeopeempmnnaaDoor.PA
set_option linter.unusedSimpArgs false
set_option linter.unusedVariables false

def impl_CancelAt.f (g : List Tk) (room : List Int) (workers : Int) (start : List Int) (d : Int) : Option (List Int) := some (cancelM g room workers start d)
def impl_LogOf.f (g : List Tk) (room : List Int) (workers : Int) (start : List Int) : Option (List Evt) := some (logM g room workers start)
end Go.Proofs.YtaoeopeempmnnaaDoor

/-
  WHAT THE DRAWN LAWS CALL: gathered.
-/

