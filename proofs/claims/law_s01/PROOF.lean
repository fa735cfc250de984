import PyProof.Rows.All
import Wide.All
import OpenK.AllK
import Wide.FinOn
import PyProof.EqAt
import PyProof.EqKinds
import PyProof.TupleCall
import Open.SpecLaws
import KE.OsGo
import HandS.ForSpec
import HandS.Comp
import HandS.Text
import HandS.StrMore
import HandS.Style
import HandS.Iter
import HandS.Zip
import HandS.Flow
import HandS.ExcInit
import PySem.Challenge.RW_agedays_s01_answers
import HandS.Walk
import HandS.ExcSuper
import HandS.Strs
import KE.GoesMore
import KE.GoesZip
set_option Elab.async false
set_option linter.all false
set_option maxRecDepth 100000
set_option maxHeartbeats 4000000
/-- names read, ints taken: as far as it goes -/
local macro_rules | `(tactic| walk_at "ag rd") => `(tactic| repeat' first
  | refine ⟨_, rfl, ?_⟩
  | refine ⟨_, _, rfl, rfl, ?_⟩
  | refine ⟨_, _, rfl, ?_⟩
  | refine ⟨_, _, _, rfl, ?_⟩
  | refine ⟨_, _, _, _, rfl, ?_⟩
  | refine ⟨rfl, ?_⟩
  | refine ⟨(show (0 : Int) < _ by decide), ?_⟩
  | refine ⟨(show L2.CDiv _ _ from ⟨by decide, by decide⟩), ?_⟩
  | fail "rd")
/-! Calendar, in whole numbers of any sign: what the program reckons; then the same against the specification. -/
namespace Ag
open VxDay

def leapI (y : Int) : Bool := decide (y % 4 = 0) && (!decide (y % 100 = 0) || decide (y % 400 = 0))
def mlI (y m : Int) : Int := if m = 2 then (if leapI y = true then 29 else 28) else if m = 4 ∨ m = 6 ∨ m = 9 ∨ m = 11 then 30 else 31
def leaps (y : Int) : Int := y / 4 - y / 100 + y / 400
def byI (y : Int) : Int := 365 * (y - 1900) + (leaps (y - 1) - leaps 1899)
/-- days of the months ahead of the (n + 1)-th -/
def sumI (y : Int) : Nat → Int
  | 0 => 0
  | n + 1 => sumI y n + mlI y ((n : Int) + 1)
def bmI (y m : Int) : Int := byI y + sumI y (m - 1).toNat
def dayI (y m d : Int) : Int := bmI y m + d
/-- by the months' own number: 12 y + m - 1 -/
def mst (t : Int) : Int := bmI (t / 12) (t % 12 + 1)
def mln (t : Int) : Int := mlI (t / 12) (t % 12 + 1)
/-- n is the day of that date -/
structure IsD (n y m d : Int) : Prop where
  m1 : 1 ≤ m
  m2 : m ≤ 12
  d1 : 1 ≤ d
  d2 : d ≤ mlI y m
  eq : n = bmI y m + d

theorem leap_cases (y : Int) : (leapI y = true ∧ (y % 4 = 0 ∧ (y % 100 ≠ 0 ∨ y % 400 = 0))) ∨ (leapI y = false ∧ ¬ (y % 4 = 0 ∧ (y % 100 ≠ 0 ∨ y % 400 = 0))) := by
  unfold leapI
  by_cases h1 : y % 4 = 0 <;> by_cases h2 : y % 100 = 0 <;> by_cases h3 : y % 400 = 0 <;> simp [h1, h2, h3]
theorem ml_bounds (y m : Int) : 28 ≤ mlI y m ∧ mlI y m ≤ 31 := by
  unfold mlI
  split
  · split <;> omega
  · split <;> omega
theorem by_succ (y : Int) : byI (y + 1) = byI y + 365 + (if leapI y = true then 1 else 0) := by
  unfold byI leaps
  rcases leap_cases y with ⟨h, k⟩ | ⟨h, k⟩
  · rw [if_pos h]; omega
  · rw [h, if_neg (by decide)]; omega
theorem by_lt (y : Int) : byI y + 365 ≤ byI (y + 1) ∧ byI (y + 1) ≤ byI y + 366 := by
  rw [by_succ]
  split <;> omega
theorem bm_one (y : Int) : bmI y 1 = byI y := by
  show byI y + sumI y 0 = byI y
  unfold sumI
  omega
theorem bm_succ {y m : Int} (h : 1 ≤ m) : bmI y (m + 1) = bmI y m + mlI y m := by
  unfold bmI
  have e : (m + 1 - 1).toNat = (m - 1).toNat + 1 := by omega
  rw [e]
  show byI y + (sumI y (m - 1).toNat + mlI y (((m - 1).toNat : Int) + 1)) = _
  have e2 : (((m - 1).toNat : Int) + 1) = m := by omega
  rw [e2]
  omega
theorem sum_year (y : Int) : sumI y 12 = 365 + (if leapI y = true then 1 else 0) := by
  simp only [sumI, mlI]
  cases h : leapI y <;> simp
theorem bm_year (y : Int) : bmI y 12 + mlI y 12 = byI (y + 1) := by
  rw [by_succ, ← bm_succ (by decide)]
  have := sum_year y
  show byI y + sumI y 12 = _
  omega
theorem mst_succ (t : Int) : mst (t + 1) = mst t + mln t := by
  unfold mst mln
  by_cases h : t % 12 = 11
  · have e1 : (t + 1) / 12 = t / 12 + 1 := by omega
    have e2 : (t + 1) % 12 + 1 = 1 := by omega
    rw [e1, e2, bm_one, h]
    exact (bm_year _).symm
  · have e1 : (t + 1) / 12 = t / 12 := by omega
    have e2 : (t + 1) % 12 + 1 = (t % 12 + 1) + 1 := by omega
    rw [e1, e2]
    exact bm_succ (by omega)
theorem mln_bounds (t : Int) : 28 ≤ mln t ∧ mln t ≤ 31 := ml_bounds _ _
theorem mst_add (t : Int) : ∀ k : Nat, mst t + 28 * k ≤ mst (t + k) ∧ mst (t + k) ≤ mst t + 31 * k
  | 0 => by
    have e : t + ((0 : Nat) : Int) = t := by omega
    rw [e]; omega
  | k + 1 => by
    have ih := mst_add t k
    have e : t + ((k + 1 : Nat) : Int) = (t + (k : Int)) + 1 := by omega
    have b := mln_bounds (t + k)
    rw [e, mst_succ]
    omega
theorem mst_mono {s t : Int} (h : s ≤ t) : mst s + 28 * (t - s) ≤ mst t ∧ mst t ≤ mst s + 31 * (t - s) := by
  have := mst_add s (t - s).toNat
  have e : s + ((t - s).toNat : Int) = t := by omega
  have e2 : (((t - s).toNat : Nat) : Int) = t - s := by omega
  rw [e] at this
  omega
theorem mt_of {y m : Int} (h1 : 1 ≤ m) (h2 : m ≤ 12) : (12 * y + m - 1) / 12 = y ∧ (12 * y + m - 1) % 12 + 1 = m := by omega
theorem mst_of {y m : Int} (h1 : 1 ≤ m) (h2 : m ≤ 12) : mst (12 * y + m - 1) = bmI y m ∧ mln (12 * y + m - 1) = mlI y m := by
  obtain ⟨e1, e2⟩ := mt_of (y := y) h1 h2
  unfold mst mln
  rw [e1, e2]
  exact ⟨rfl, rfl⟩
/-- of the month t, the day d -/
theorem IsD.t {n y m d : Int} (h : IsD n y m d) : n = mst (12 * y + m - 1) + d ∧ 1 ≤ d ∧ d ≤ mln (12 * y + m - 1) := by
  obtain ⟨e1, e2⟩ := mst_of (y := y) h.m1 h.m2
  rw [e1, e2]
  exact ⟨h.eq, h.d1, h.d2⟩
theorem t_uniq {n s t d e : Int} (h : n = mst s + d) (h1 : 1 ≤ d) (h2 : d ≤ mln s) (k : n = mst t + e) (k1 : 1 ≤ e) (k2 : e ≤ mln t) : s = t := by
  rcases Int.lt_trichotomy s t with c | c | c
  · have a := mst_mono (s := s + 1) (t := t) (by omega)
    have b := mst_succ s
    omega
  · exact c
  · have a := mst_mono (s := t + 1) (t := s) (by omega)
    have b := mst_succ t
    omega
theorem IsD.uniq {n y m d y' m' d' : Int} (h : IsD n y m d) (k : IsD n y' m' d') : y = y' ∧ m = m' ∧ d = d' := by
  obtain ⟨a1, a2, a3⟩ := h.t
  obtain ⟨b1, b2, b3⟩ := k.t
  have e := t_uniq a1 a2 a3 b1 b2 b3
  have := h.m1; have := h.m2; have := k.m1; have := k.m2
  rw [e] at a1
  refine ⟨by omega, by omega, by omega⟩
/-- the year of a day, by its bounds -/
theorem IsD.year {n y m d : Int} (h : IsD n y m d) : byI y < n ∧ n ≤ byI (y + 1) := by
  have a := mst_mono (s := 12 * y + 1 - 1) (t := 12 * y + m - 1) (by have := h.m1; omega)
  have b := mst_mono (s := 12 * y + m - 1 + 1) (t := 12 * (y + 1) + 1 - 1) (by have := h.m2; omega)
  obtain ⟨c, d1, d2⟩ := h.t
  have e1 := (mst_of (y := y) (m := 1) (by decide) (by decide)).1
  have e2 := (mst_of (y := y + 1) (m := 1) (by decide) (by decide)).1
  rw [bm_one] at e1 e2
  have s := mst_succ (12 * y + m - 1)
  have := h.m1; have := h.m2
  omega
theorem by_mono {y z : Int} (h : y ≤ z) : byI y + 365 * (z - y) ≤ byI z := by
  have key : ∀ k : Nat, byI y + 365 * k ≤ byI (y + k) := by
    intro k
    induction k with
    | zero => have e : y + ((0 : Nat) : Int) = y := by omega
              rw [e]; omega
    | succ k ih =>
      have e : y + ((k + 1 : Nat) : Int) = (y + (k : Int)) + 1 := by omega
      have b := by_lt (y + k)
      rw [e]
      omega
  have := key (z - y).toNat
  have e : y + ((z - y).toNat : Int) = z := by omega
  rw [e] at this
  omega
theorem year_uniq {n y z : Int} (h1 : byI y < n) (h2 : n ≤ byI (y + 1)) (k1 : byI z < n) (k2 : n ≤ byI (z + 1)) : y = z := by
  rcases Int.lt_trichotomy y z with c | c | c
  · have := by_mono (y := y + 1) (z := z) (by omega); omega
  · exact c
  · have := by_mono (y := z + 1) (z := y) (by omega); omega
/-- the first guess isn't behind the year -/
theorem guess_le {n : Int} (h : 1 ≤ n) : byI (1900 + (n - 1) / 366) < n := by
  have hq : 0 ≤ (n - 1) / 366 := by omega
  have hn : 366 * ((n - 1) / 366) ≤ n - 1 := by omega
  generalize (n - 1) / 366 = q at hq hn
  unfold byI leaps
  by_cases c : q = 0
  · subst c; omega
  by_cases c1 : q = 1
  · subst c1; omega
  omega
theorem guess_next {n : Int} (h : 1 ≤ n) (h2 : n ≤ 100000) : n ≤ byI (1900 + (n - 1) / 366 + 1 + 1) := by
  have hq : 0 ≤ (n - 1) / 366 := by omega
  have hn : n - 1 ≤ 366 * ((n - 1) / 366) + 365 := by omega
  have hm : (n - 1) / 366 ≤ 273 := by omega
  generalize (n - 1) / 366 = q at hq hn hm
  unfold byI leaps
  omega
end Ag

/-! The calendar against the specification's. -/
namespace Ag
open VxDay

theorem leap_eq (y : Nat) : leap y = leapI y := by
  unfold leap leapI
  have e1 : (y % 4 == 0) = decide ((y : Int) % 4 = 0) := by
    by_cases h : y % 4 = 0
    · rw [h]; have : (y : Int) % 4 = 0 := by omega
      simp [this]
    · have : ¬ (y : Int) % 4 = 0 := by omega
      simp [h, this]
  have e2 : (y % 100 != 0) = !decide ((y : Int) % 100 = 0) := by
    by_cases h : y % 100 = 0
    · rw [h]; have : (y : Int) % 100 = 0 := by omega
      simp [this]
    · have : ¬ (y : Int) % 100 = 0 := by omega
      simp [h, this]
  have e3 : (y % 400 == 0) = decide ((y : Int) % 400 = 0) := by
    by_cases h : y % 400 = 0
    · rw [h]; have : (y : Int) % 400 = 0 := by omega
      simp [this]
    · have : ¬ (y : Int) % 400 = 0 := by omega
      simp [h, this]
  rw [e1, e2, e3]
theorem md_eq (y m : Nat) : (monthDays y m : Int) = mlI y m := by
  unfold monthDays mlI
  rw [leap_eq]
  by_cases h : m = 2
  · subst h
    have h' : ((2 : Nat) : Int) = 2 := rfl
    rw [if_pos rfl, if_pos h']
    cases leapI ((2 : Nat) : Int) <;> cases leapI (y : Int) <;> rfl
  · have h' : ¬ (m : Int) = 2 := by omega
    rw [if_neg h, if_neg h']
    by_cases k : m = 4 ∨ m = 6 ∨ m = 9 ∨ m = 11
    · rw [if_pos k, if_pos (by omega)]; rfl
    · rw [if_neg k, if_neg (by omega)]; rfl
theorem beforeYear_eq {y : Nat} (h : 1900 ≤ y) : (beforeYear y : Int) = byI y := by
  unfold beforeYear byI leaps FIRST
  omega
theorem fold_sum (y : Nat) : ∀ n : Nat, (((List.range n).foldl (fun (n i : Nat) => n + monthDays y (i + 1)) 0 : Nat) : Int) = sumI y n
  | 0 => rfl
  | n + 1 => by
    rw [List.range_succ, List.foldl_append]
    have ih := fold_sum y n
    have e := md_eq y (n + 1)
    show ((_ + monthDays y (n + 1) : Nat) : Int) = sumI y n + mlI y ((n : Int) + 1)
    have e2 : ((n + 1 : Nat) : Int) = (n : Int) + 1 := by omega
    rw [e2] at e
    omega
theorem beforeMonth_eq (y m : Nat) : (beforeMonth y m : Int) = sumI y (m - 1) := fold_sum y (m - 1)
theorem numberOf_eq {y m d : Nat} (h : 1900 ≤ y) (h1 : 1 ≤ m) : (numberOf ⟨y, m, d⟩ : Int) = dayI y m d := by
  unfold numberOf dayI bmI
  have e1 := beforeYear_eq h
  have e2 := beforeMonth_eq y m
  have e3 : ((m : Int) - 1).toNat = m - 1 := by omega
  rw [e3]
  show ((beforeYear y + beforeMonth y m + d : Nat) : Int) = _
  omega

/-- the year that a day is in -/
theorem yearOf_ok {n : Nat} (h1 : 1 ≤ n) (h2 : n ≤ 100000) : 1900 ≤ yearOf n ∧ byI (yearOf n) < n ∧ (n : Int) ≤ byI ((yearOf n : Int) + 1) := by
  have g1 := guess_le (n := n) (by omega)
  have g2 := guess_next (n := n) (by omega) (by omega)
  have e : ((1900 + (n - 1) / 366 : Nat) : Int) = 1900 + ((n : Int) - 1) / 366 := by omega
  rw [← e] at g1 g2
  have e2 := beforeYear_eq (y := 1900 + (n - 1) / 366 + 1) (by omega)
  have e3 : ((1900 + (n - 1) / 366 + 1 : Nat) : Int) = ((1900 + (n - 1) / 366 : Nat) : Int) + 1 := by omega
  rw [e3] at e2
  unfold yearOf FIRST
  show 1900 ≤ (if beforeYear (1900 + (n - 1) / 366 + 1) < n then 1900 + (n - 1) / 366 + 1 else 1900 + (n - 1) / 366) ∧ _
  by_cases c : beforeYear (1900 + (n - 1) / 366 + 1) < n
  · simp only [if_pos c, e3]
    refine ⟨by omega, by omega, g2⟩
  · simp only [if_neg c]
    refine ⟨by omega, g1, by omega⟩
theorem monthFrom_ok (y : Nat) : ∀ (f m k : Nat), m + f = 12 → 1 ≤ m → 1 ≤ k → bmI y m + k ≤ byI ((y : Int) + 1) →
    IsD (bmI y m + k) y ((monthFrom y f m k).1 : Nat) ((monthFrom y f m k).2 : Nat)
  | 0, m, k, hf, h1, hk, hb => by
    have e : m = 12 := by omega
    subst e
    have q : bmI y ((12 : Nat) : Int) = bmI y 12 := rfl
    have := bm_year y
    exact ⟨by show (1 : Int) ≤ 12; decide, by show (12 : Int) ≤ 12; decide, by show (1 : Int) ≤ k; omega, by show (k : Int) ≤ mlI y 12; omega, rfl⟩
  | f + 1, m, k, hf, h1, hk, hb => by
    have e := md_eq y m
    have s := bm_succ (y := y) (m := m) (by omega)
    unfold monthFrom
    by_cases c : k ≤ monthDays y m
    · rw [if_pos c]
      exact ⟨by show (1 : Int) ≤ m; omega, by show (m : Int) ≤ 12; omega, by show (1 : Int) ≤ k; omega, by show (k : Int) ≤ mlI y m; omega, rfl⟩
    · rw [if_neg c]
      have e3 : ((m + 1 : Nat) : Int) = (m : Int) + 1 := by omega
      have ih := monthFrom_ok y f (m + 1) (k - monthDays y m) (by omega) (by omega) (by omega) (by rw [e3, s]; omega)
      have e4 : bmI y ((m + 1 : Nat) : Int) + ((k - monthDays y m : Nat) : Int) = bmI y m + k := by
        rw [e3, s]
        omega
      rw [e4] at ih
      exact ih
theorem dateOf_ok {n : Nat} (h1 : 1 ≤ n) (h2 : n ≤ 100000) : 1900 ≤ (dateOf n).y ∧ IsD n (dateOf n).y (dateOf n).m (dateOf n).d := by
  obtain ⟨a, b, c⟩ := yearOf_ok h1 h2
  have e := beforeYear_eq a
  have m := monthFrom_ok (yearOf n) 11 1 (n - beforeYear (yearOf n)) rfl (by decide) (by omega) (by
    show bmI (yearOf n) 1 + _ ≤ _
    rw [bm_one]; omega)
  have e2 : bmI (yearOf n) ((1 : Nat) : Int) + ((n - beforeYear (yearOf n) : Nat) : Int) = n := by
    show bmI (yearOf n) 1 + _ = _
    rw [bm_one]; omega
  rw [e2] at m
  have ed : dateOf n = ⟨yearOf n, (monthFrom (yearOf n) 11 1 (n - beforeYear (yearOf n))).1, (monthFrom (yearOf n) 11 1 (n - beforeYear (yearOf n))).2⟩ := by
    unfold dateOf
    rfl
  rw [ed]
  dsimp only
  refine ⟨a, ?_⟩
  exact m
/-- what the program finds is the specification's date -/
theorem dateOf_is {n : Nat} {y m d : Int} (h1 : 1 ≤ n) (h2 : n ≤ 100000) (h : IsD n y m d) : ((dateOf n).y : Int) = y ∧ ((dateOf n).m : Int) = m ∧ ((dateOf n).d : Int) = d :=
  (dateOf_ok h1 h2).2.uniq h

/-! ### months on -/
/-- from the d-th of the month t -/
def moT (t d : Int) : Int := if d ≤ mln t then mst t + d else mst t + mln t + 1
theorem moT_succ {t d : Int} (h : 1 ≤ d) (h2 : d ≤ 31) : moT t d < moT (t + 1) d := by
  unfold moT
  have a := mln_bounds t
  have b := mln_bounds (t + 1)
  have s := mst_succ t
  split <;> split <;> omega
theorem moT_mono {s t d : Int} (h : 1 ≤ d) (h2 : d ≤ 31) (hs : s ≤ t) : moT s d + (t - s) ≤ moT t d := by
  have key : ∀ k : Nat, moT s d + k ≤ moT (s + k) d := by
    intro k
    induction k with
    | zero => have e : s + ((0 : Nat) : Int) = s := by omega
              rw [e]; omega
    | succ k ih =>
      have e : s + ((k + 1 : Nat) : Int) = (s + (k : Int)) + 1 := by omega
      have b := moT_succ (t := s + k) h h2
      rw [e]
      omega
  have := key (t - s).toNat
  have e : s + ((t - s).toNat : Int) = t := by omega
  rw [e] at this
  omega
theorem moT_bounds (t d : Int) (h : 1 ≤ d) : mst t + 1 ≤ moT t d ∧ moT t d ≤ mst (t + 1) + 1 := by
  have s := mst_succ t
  have a := mln_bounds t
  unfold moT
  split <;> omega
theorem later_eq {x : Date} {k : Nat} (h : 1900 ≤ x.y) (h1 : 1 ≤ x.m) (h2 : x.m ≤ 12) : (numberOf (later x k) : Int) = moT (12 * x.y + x.m - 1 + k) x.d := by
  obtain ⟨y, m, d⟩ := x
  unfold later
  show ((numberOf (if d ≤ monthDays ((12 * y + (m - 1) + k) / 12) ((12 * y + (m - 1) + k) % 12 + 1) then _ else _) : Nat) : Int) = moT (12 * (y : Int) + (m : Int) - 1 + (k : Int)) d
  have et : ((12 * y + (m - 1) + k : Nat) : Int) = 12 * (y : Int) + (m : Int) - 1 + (k : Int) := by
    have : 1 ≤ m := h1
    omega
  have hy : 1900 ≤ y := h
  rw [← et]
  generalize ht : 12 * y + (m - 1) + k = t
  have hq : 1900 ≤ t / 12 := by omega
  have em := md_eq (t / 12) (t % 12 + 1)
  have e1 : ((t / 12 : Nat) : Int) = (t : Int) / 12 := by omega
  have e2 : ((t % 12 + 1 : Nat) : Int) = (t : Int) % 12 + 1 := by omega
  have el : mln t = mlI ((t / 12 : Nat) : Int) ((t % 12 + 1 : Nat) : Int) := by rw [e1, e2]; rfl
  unfold moT
  by_cases c : d ≤ monthDays (t / 12) (t % 12 + 1)
  · rw [if_pos c, if_pos (by rw [el]; omega), numberOf_eq hq (by omega)]
    show bmI _ _ + (d : Int) = mst t + d
    unfold mst
    rw [e1, e2]
  · rw [if_neg c, if_neg (by rw [el]; omega), numberOf_eq (by omega) (by omega), ← mst_succ]
    have f1 : (((t + 1) / 12 : Nat) : Int) = ((t : Int) + 1) / 12 := by omega
    have f2 : (((t + 1) % 12 + 1 : Nat) : Int) = ((t : Int) + 1) % 12 + 1 := by omega
    show bmI _ _ + 1 = mst ((t : Int) + 1) + 1
    unfold mst
    rw [f1, f2]
/-- the day k months on from day b -/
def mo (b k : Nat) : Nat := numberOf (later (dateOf b) k)
theorem mo_eq {b k : Nat} {y m d : Int} (h1 : 1 ≤ b) (h2 : b ≤ 100000) (h : IsD b y m d) : (mo b k : Int) = moT (12 * y + m - 1 + k) d := by
  obtain ⟨e1, e2, e3⟩ := dateOf_is h1 h2 h
  obtain ⟨hy, hd⟩ := dateOf_ok h1 h2
  have a := hd.m1
  have b' := hd.m2
  unfold mo
  rw [later_eq hy (by omega) (by omega), e1, e2, e3]
/-- nothing on is the day itself -/
theorem mo_zero {b : Nat} (h1 : 1 ≤ b) (h2 : b ≤ 100000) : mo b 0 = b := by
  obtain ⟨hy, hd⟩ := dateOf_ok h1 h2
  have e := mo_eq (k := 0) h1 h2 hd
  obtain ⟨c, d1, d2⟩ := hd.t
  have e2 : (12 * ((dateOf b).y : Int) + ((dateOf b).m : Int) - 1 + ((0 : Nat) : Int)) = 12 * ((dateOf b).y : Int) + ((dateOf b).m : Int) - 1 := by omega
  rw [e2] at e
  unfold moT at e
  rw [if_pos d2] at e
  omega
theorem mo_mono {b k j : Nat} (h1 : 1 ≤ b) (h2 : b ≤ 100000) (h : k ≤ j) : mo b k + (j - k) ≤ mo b j := by
  obtain ⟨hy, hd⟩ := dateOf_ok h1 h2
  have e := mo_eq (k := k) h1 h2 hd
  have e' := mo_eq (k := j) h1 h2 hd
  have := moT_mono (s := 12 * ((dateOf b).y : Int) + ((dateOf b).m : Int) - 1 + (k : Int)) (t := 12 * ((dateOf b).y : Int) + ((dateOf b).m : Int) - 1 + (j : Int)) hd.d1 (Int.le_trans hd.d2 (ml_bounds _ _).2) (by omega)
  omega
/-- as many months as the two months are apart reach into the later month; one less doesn't pass a day of it -/
theorem mo_less {b n : Nat} (h1 : 1 ≤ b) (h2 : b ≤ 100000) (h3 : 1 ≤ n) (h4 : n ≤ 100000) {y m d y' m' d' : Int} (hb : IsD b y m d) (hn : IsD n y' m' d') {k : Nat} (hk : (k : Int) + 1 ≤ 12 * y' + m' - (12 * y + m)) : mo b k ≤ n := by
  have e := mo_eq (k := k) h1 h2 hb
  have bd := (moT_bounds (12 * y + m - 1 + k) d hb.d1).2
  have s := mst_mono (s := 12 * y + m - 1 + k + 1) (t := 12 * y' + m' - 1) (by omega)
  obtain ⟨c, d1, d2⟩ := hn.t
  omega
theorem mo_more {b n : Nat} (h1 : 1 ≤ b) (h2 : b ≤ 100000) (h3 : 1 ≤ n) (h4 : n ≤ 100000) {y m d y' m' d' : Int} (hb : IsD b y m d) (hn : IsD n y' m' d') {k : Nat} (hk : 12 * y' + m' - (12 * y + m) + 1 ≤ (k : Int)) : n < mo b k := by
  have e := mo_eq (k := k) h1 h2 hb
  have bd := (moT_bounds (12 * y + m - 1 + k) d hb.d1).1
  have s := mst_mono (s := 12 * y' + m' - 1 + 1) (t := 12 * y + m - 1 + k) (by omega)
  have s2 := mst_succ (12 * y' + m' - 1)
  obtain ⟨c, d1, d2⟩ := hn.t
  omega
/-- who is born earlier stands in no later month -/
theorem t_le {b n : Nat} (h : b ≤ n) {y m d y' m' d' : Int} (hb : IsD b y m d) (hn : IsD n y' m' d') : 12 * y + m ≤ 12 * y' + m' := by
  obtain ⟨c, d1, d2⟩ := hn.t
  obtain ⟨c', d1', d2'⟩ := hb.t
  by_cases q : 12 * y + m ≤ 12 * y' + m'
  · exact q
  · have s := mst_mono (s := 12 * y' + m' - 1 + 1) (t := 12 * y + m - 1) (by omega)
    have s2 := mst_succ (12 * y' + m' - 1)
    omega
end Ag

/-! How old (old); the k-th day of the week (nth). -/
namespace Ag
open VxDay AgeSpec

theorem monthsOld_zero (b n : Nat) : monthsOld b n 0 = 0 := by
  unfold monthsOld
  rfl
theorem monthsOld_succ (b n k : Nat) : monthsOld b n (k + 1) = if mo b (k + 1) ≤ n then k + 1 else monthsOld b n k := by
  rw [monthsOld]
  rfl
theorem monthsOld_self {b n : Nat} (h1 : 1 ≤ b) (h2 : b ≤ 100000) (k : Nat) (h : mo b k ≤ n) : monthsOld b n k = k := by
  cases k with
  | zero => exact monthsOld_zero b n
  | succ k => rw [monthsOld_succ, if_pos h]
/-- the program's number of months is the specification's -/
theorem monthsOld_eq {b n : Nat} (h1 : 1 ≤ b) (h2 : b ≤ 100000) (h3 : 1 ≤ n) (h4 : n ≤ 100000) (hbn : b ≤ n) {y m d y' m' d' : Int} (hb : IsD b y m d) (hn : IsD n y' m' d') :
    (monthsOld b n (monthsMost b n) : Int) = (if mo b (12 * (y' - y) + m' - m).toNat ≤ n then 12 * (y' - y) + m' - m else 12 * (y' - y) + m' - m - 1) ∧ 0 ≤ 12 * (y' - y) + m' - m ∧ mo b (monthsOld b n (monthsMost b n)) ≤ n := by
  obtain ⟨b1, b2, b3⟩ := dateOf_is h1 h2 hb
  obtain ⟨n1, n2, n3⟩ := dateOf_is h3 h4 hn
  have ht := t_le hbn hb hn
  have q1 := hb.m1; have q2 := hb.m2; have q3 := hn.m1; have q4 := hn.m2
  have em : ((monthsMost b n : Nat) : Int) = 12 * (y' - y) + m' - m := by
    unfold monthsMost
    omega
  have et : (12 * (y' - y) + m' - m).toNat = monthsMost b n := by omega
  rw [et]
  generalize monthsMost b n = K at *
  refine ⟨?_, by omega, ?_⟩
  · by_cases c : mo b K ≤ n
    · rw [if_pos c, monthsOld_self h1 h2 K c]
      exact em
    · rw [if_neg c]
      cases K with
      | zero => exact absurd (by rw [mo_zero h1 h2]; exact hbn) c
      | succ k =>
        have e : monthsOld b n (k + 1) = monthsOld b n k := by rw [monthsOld_succ, if_neg c]
        rw [e, monthsOld_self h1 h2 k (mo_less h1 h2 h3 h4 hb hn (by omega))]
        omega
  · by_cases c : mo b K ≤ n
    · rw [monthsOld_self h1 h2 K c]
      exact c
    · cases K with
      | zero => exact absurd (by rw [mo_zero h1 h2]; exact hbn) c
      | succ k =>
        have e : monthsOld b n (k + 1) = monthsOld b n k := by rw [monthsOld_succ, if_neg c]
        have l := mo_less (k := k) h1 h2 h3 h4 hb hn (by omega)
        rw [e, monthsOld_self h1 h2 k l]
        exact l

/-! ### nth -/
def wdI (n : Int) : Int := (n - 1) % 7 + 1
def fwI (first w : Int) : Int := first + (w - wdI first) % 7
def lwI (last w : Int) : Int := last - (wdI last - w) % 7
theorem filter_mod : ∀ ml : Fin 4, ∀ c : Fin 7, (List.range (28 + ml.val)).filter (fun i => i % 7 == c.val) = (List.range (4 + (if c.val < ml.val then 1 else 0))).map (fun j => c.val + 7 * j) := by decide
theorem range_mod {ml c : Nat} (h1 : 28 ≤ ml) (h2 : ml ≤ 31) (hc : c < 7) : (List.range ml).filter (fun i => i % 7 == c) = (List.range (4 + (if c < ml - 28 then 1 else 0))).map (fun j => c + 7 * j) := by
  have := filter_mod ⟨ml - 28, by omega⟩ ⟨c, hc⟩
  have e : 28 + (ml - 28) = ml := by omega
  simp only [e] at this
  exact this
/-- the days of the week w in a month: from the first one, by weeks -/
theorem nth_list {first ml w : Nat} (h1 : 28 ≤ ml) (h2 : ml ≤ 31) (hf : 1 ≤ first) (hw1 : 1 ≤ w) (hw2 : w ≤ 7) :
    (((List.range ml).map fun (i : Nat) => first + i).filter fun (n : Nat) => weekday n == w) =
      (List.range (4 + (if (((w : Int) - wdI first) % 7).toNat < ml - 28 then 1 else 0))).map (fun j => first + (((w : Int) - wdI first) % 7).toNat + 7 * j) := by
  have hc : (((w : Int) - wdI first) % 7).toNat < 7 := by omega
  rw [List.filter_map]
  have e : ((fun (n : Nat) => weekday n == w) ∘ fun (i : Nat) => first + i) = (fun i => i % 7 == (((w : Int) - wdI first) % 7).toNat) := by
    funext i
    show (weekday (first + i) == w) = _
    unfold weekday wdI
    by_cases h : i % 7 = (((w : Int) - (((first : Int) - 1) % 7 + 1)) % 7).toNat
    · rw [beq_iff_eq.mpr h, beq_iff_eq]
      omega
    · rw [beq_eq_false_iff_ne.mpr h, beq_eq_false_iff_ne]
      omega
  rw [e, range_mod h1 h2 hc, List.map_map]
  congr 1
  funext j
  show first + ((((w : Int) - wdI first) % 7).toNat + 7 * j) = _
  omega
theorem getLast_range_map {f : Nat → Nat} (n : Nat) : ((List.range (n + 1)).map f).getLast? = some (f n) := by
  rw [List.range_succ, List.map_append]
  simp
theorem get_range_map {f : Nat → Nat} {n j : Nat} : ((List.range n).map f)[j]? = if j < n then some (f j) else none := by
  rw [List.getElem?_map]
  by_cases h : j < n
  · rw [if_pos h, List.getElem?_range h]; rfl
  · rw [if_neg h, List.getElem?_eq_none (by rw [List.length_range]; omega)]; rfl
/-- what the program reckons is the specification's k-th day -/
theorem nth_eq {y m w : Nat} (hy : 1900 ≤ y) (hm1 : 1 ≤ m) (hm2 : m ≤ 12) (hw1 : 1 ≤ w) (hw2 : w ≤ 7) (k : Nat) (hpos : 1 ≤ dayI y m 1) :
    (k = 0 → ∃ n, nthOf y m k w = some n ∧ (n : Int) = lwI (dayI y m (mlI y m)) w) ∧
    (k ≠ 0 → (fwI (dayI y m 1) w + 7 * ((k : Int) - 1) > dayI y m (mlI y m) → nthOf y m k w = none) ∧
      (¬ fwI (dayI y m 1) w + 7 * ((k : Int) - 1) > dayI y m (mlI y m) → ∃ n, nthOf y m k w = some n ∧ (n : Int) = fwI (dayI y m 1) w + 7 * ((k : Int) - 1))) := by
  have ef := numberOf_eq (y := y) (m := m) (d := 1) hy hm1
  have el := md_eq y m
  have bd := ml_bounds y m
  have h1 : 28 ≤ monthDays y m := by omega
  have h2 : monthDays y m ≤ 31 := by omega
  have ed : dayI y m ((1 : Nat) : Int) = dayI y m 1 := rfl
  rw [ed] at ef
  have eL : dayI y m (mlI y m) = dayI y m 1 + (monthDays y m : Int) - 1 := by unfold dayI; omega
  have L := nth_list (first := numberOf ⟨y, m, 1⟩) (ml := monthDays y m) (w := w) h1 h2 (by omega) hw1 hw2
  rw [eL, ← ef]
  unfold nthOf
  show (k = 0 → ∃ n, (if k = 0 then _ else _) = some n ∧ _) ∧ (k ≠ 0 → (_ → (if k = 0 then _ else _) = none) ∧ (_ → ∃ n, (if k = 0 then _ else _) = some n ∧ _))
  simp only [L]
  generalize numberOf ⟨y, m, 1⟩ = first at *
  generalize hml : monthDays y m = ml at *
  have hc : (((w : Int) - wdI first) % 7).toNat < 7 := by omega
  have hc2 : ((((w : Int) - wdI first) % 7).toNat : Int) = ((w : Int) - wdI first) % 7 := by omega
  refine ⟨fun hk => ?_, fun hk => ⟨fun hg => ?_, fun hg => ?_⟩⟩
  · subst hk
    have e4 : 4 + (if (((w : Int) - wdI first) % 7).toNat < ml - 28 then 1 else 0) = (3 + (if (((w : Int) - wdI first) % 7).toNat < ml - 28 then 1 else 0)) + 1 := by omega
    rw [if_pos rfl, e4, getLast_range_map]
    refine ⟨_, rfl, ?_⟩
    unfold lwI wdI at *
    split <;> omega
  · rw [if_neg hk, get_range_map]
    refine if_neg ?_
    unfold fwI at hg
    split <;> omega
  · rw [if_neg hk, get_range_map]
    unfold fwI at *
    refine ⟨first + (((w : Int) - wdI first) % 7).toNat + 7 * (k - 1), if_pos ?_, ?_⟩
    · split <;> omega
    · omega
theorem first_pos {y m : Int} (h : 1900 ≤ y) (h1 : 1 ≤ m) (h2 : m ≤ 12) : 1 ≤ dayI y m 1 := by
  have e := (mst_of (y := y) h1 h2).1
  have s := mst_mono (s := 12 * 1900 + 1 - 1) (t := 12 * y + m - 1) (by omega)
  have e2 := (mst_of (y := 1900) (m := 1) (by decide) (by decide)).1
  have e3 : bmI 1900 1 = 0 := by decide
  unfold dayI
  omega
end Ag

/-! Who's so old on a day (born); who is sooner. -/
namespace Ag
open VxDay AgeSpec

/-! ### stretches of whole numbers -/
def seg (lo : Int) (n : Nat) : List Int := (List.range n).map fun (i : Nat) => lo + (i : Int)
theorem seg_add (lo : Int) (a b : Nat) : seg lo (a + b) = seg lo a ++ seg (lo + a) b := by
  unfold seg
  rw [List.range_add, List.map_append, List.map_map]
  congr 1
  apply List.map_congr_left
  intro i _
  show lo + ((a + i : Nat) : Int) = lo + a + i
  omega
theorem seg_mem {lo x : Int} {n : Nat} (h : x ∈ seg lo n) : lo ≤ x ∧ x < lo + n := by
  unfold seg at h
  obtain ⟨i, hi, rfl⟩ := List.mem_map.mp h
  have := List.mem_range.mp hi
  omega
theorem seg_none {p : Int → Bool} {lo : Int} {n : Nat} (h : ∀ x, p x = true → x < lo ∨ lo + n ≤ x) : (seg lo n).filter p = [] := by
  rw [List.filter_eq_nil_iff]
  intro x hx hp
  have a := seg_mem hx
  have b := h x hp
  omega
theorem seg_sub {p : Int → Bool} {lo : Int} {n : Nat} {L : Int} {N : Nat} (h1 : L ≤ lo) (h2 : lo + n ≤ L + N) (h : ∀ x, p x = true → lo ≤ x ∧ x < lo + n) : (seg L N).filter p = (seg lo n).filter p := by
  have e : N = (lo - L).toNat + (n + (L + N - (lo + n)).toNat) := by omega
  rw [e, seg_add, seg_add, List.filter_append, List.filter_append]
  have e2 : L + ((lo - L).toNat : Int) = lo := by omega
  rw [e2, seg_none (lo := L) (fun x hx => by have := h x hx; omega), seg_none (lo := lo + n) (fun x hx => by have := h x hx; omega), List.nil_append, List.append_nil]
theorem seg_same {p : Int → Bool} {lo lo' : Int} {n n' : Nat} (h : ∀ x, p x = true → lo ≤ x ∧ x < lo + n) (h' : ∀ x, p x = true → lo' ≤ x ∧ x < lo' + n') : (seg lo n).filter p = (seg lo' n').filter p := by
  have a := seg_sub (p := p) (lo := lo) (n := n) (L := min lo lo') (N := (max (lo + n) (lo' + n') - min lo lo').toNat) (by omega) (by omega) h
  have b := seg_sub (p := p) (lo := lo') (n := n') (L := min lo lo') (N := (max (lo + n) (lo' + n') - min lo lo').toNat) (by omega) (by omega) h'
  exact a.symm.trans b

/-! ### on which day -/
def wm (a : Age) : Nat := 12 * a.years + a.months
def dm (a : Age) : Int := 7 * a.weeks + a.days - a.less
def reck (a : Age) (b : Nat) : Int := (mo b (wm a) : Int) + dm a
theorem on_def (a : Age) (b : Nat) : a.on b = if isDay b = true ∧ a.less < mo b (wm a) + 7 * a.weeks + a.days ∧ mo b (wm a) + 7 * a.weeks + a.days - a.less ≤ 73049 then some (mo b (wm a) + 7 * a.weeks + a.days - a.less) else none := by
  unfold Age.on
  rfl
theorem on_eq {a : Age} {b : Nat} (h1 : 1 ≤ b) (h2 : b ≤ 73049) : a.on b = if 1 ≤ reck a b ∧ reck a b ≤ 73049 then some (reck a b).toNat else none := by
  have e : isDay b = true := by
    unfold isDay DAYS
    rw [decide_eq_true h1, decide_eq_true h2]
    rfl
  rw [on_def, e]
  unfold reck dm
  generalize mo b (wm a) = M
  by_cases c : 1 ≤ (M : Int) + (7 * (a.weeks : Int) + a.days - a.less) ∧ (M : Int) + (7 * (a.weeks : Int) + a.days - a.less) ≤ 73049
  · rw [if_pos c, if_pos ⟨rfl, by omega, by omega⟩]
    congr 1
    omega
  · rw [if_neg c, if_neg]
    rintro ⟨_, x, y⟩
    omega
theorem on_out {a : Age} {b : Nat} (h : ¬ (1 ≤ b ∧ b ≤ 73049)) : a.on b = none := by
  have e : isDay b = false := by
    unfold isDay DAYS
    by_cases h1 : 1 ≤ b
    · have : ¬ b ≤ 73049 := fun q => h ⟨h1, q⟩
      simp [h1, this]
    · simp [h1]
  rw [on_def, e, if_neg]
  rintro ⟨z, _⟩
  cases z
theorem dayOut_on {a : Age} {b : Nat} (h1 : 1 ≤ b) (h2 : b ≤ 73049) : dayOut (a.on b) = if 1 ≤ reck a b ∧ reck a b ≤ 73049 then reck a b else 0 := by
  rw [on_eq h1 h2]
  split
  · show (((reck a b).toNat : Nat) : Int) = _
    omega
  · rfl

/-! ### births -/
def okB (a : Age) (n : Int) (b : Int) : Bool := decide (1 ≤ b ∧ b ≤ 73049) && decide (reck a b.toNat = n)
theorem okB_on {a : Age} {n b : Nat} (hn1 : 1 ≤ n) (hn2 : n ≤ 73049) : (a.on b == some n) = okB a n b := by
  unfold okB
  by_cases c : 1 ≤ b ∧ b ≤ 73049
  · have e : decide (1 ≤ (b : Int) ∧ (b : Int) ≤ 73049) = true := decide_eq_true (by omega)
    rw [on_eq c.1 c.2, e, Bool.true_and]
    have e2 : ((b : Int)).toNat = b := by omega
    rw [e2]
    by_cases r : reck a b = n
    · rw [decide_eq_true r, r, if_pos (by omega)]
      simp
    · rw [decide_eq_false r]
      split
      · rename_i h
        have : ¬ (reck a b).toNat = n := by omega
        simp [this]
      · rfl
  · rw [on_out c, decide_eq_false (by omega), Bool.false_and]
    rfl
/-- a year's months -/
theorem mst_year (t : Int) : 365 ≤ mst (t + 12) - mst t ∧ mst (t + 12) - mst t ≤ 366 := by
  have e1 : (t + 12) / 12 = t / 12 + 1 := by omega
  have e2 : (t + 12) % 12 = t % 12 := by omega
  unfold mst bmI
  rw [e1, e2, by_succ]
  have hr : 0 ≤ t % 12 ∧ t % 12 < 12 := by omega
  have hs : ∀ (y z : Int) (r : Nat), r < 12 → sumI z r - sumI y r = if 2 ≤ r then ((if leapI z = true then 1 else 0) - (if leapI y = true then 1 else 0) : Int) else 0 := by
    intro y z r hr
    have : r = 0 ∨ r = 1 ∨ r = 2 ∨ r = 3 ∨ r = 4 ∨ r = 5 ∨ r = 6 ∨ r = 7 ∨ r = 8 ∨ r = 9 ∨ r = 10 ∨ r = 11 := by omega
    rcases this with rfl | rfl | rfl | rfl | rfl | rfl | rfl | rfl | rfl | rfl | rfl | rfl <;>
      (simp only [sumI, mlI]; cases leapI y <;> cases leapI z <;> simp)
  have := hs (t / 12) (t / 12 + 1) (t % 12 + 1 - 1).toNat (by omega)
  revert this
  generalize sumI (t / 12 + 1) (t % 12 + 1 - 1).toNat = u
  generalize sumI (t / 12) (t % 12 + 1 - 1).toNat = v
  intro this
  split at this <;> split <;> (try split at this) <;> (try split at this) <;> (try split at this) <;> omega
theorem mst_years (t : Int) : ∀ y : Nat, 365 * (y : Int) ≤ mst (t + 12 * y) - mst t ∧ mst (t + 12 * y) - mst t ≤ 366 * (y : Int)
  | 0 => by
    have e : t + 12 * ((0 : Nat) : Int) = t := by omega
    rw [e]; omega
  | y + 1 => by
    have ih := mst_years t y
    have s := mst_year (t + 12 * y)
    have e : t + 12 * ((y + 1 : Nat) : Int) = t + 12 * (y : Int) + 12 := by omega
    rw [e]
    omega
/-- how many days so many years and months may be -/
theorem moT_far {t d : Int} {y m : Nat} (h1 : 1 ≤ d) (h2 : d ≤ mln t) : mst t + d + (365 * (y : Int) + 28 * m) ≤ moT (t + (12 * y + m : Nat)) d ∧ moT (t + (12 * y + m : Nat)) d ≤ mst t + d + (366 * (y : Int) + 31 * m) := by
  have a := mst_years (t + m) y
  have b := mst_mono (s := t) (t := t + m) (by omega)
  have e : t + ((12 * y + m : Nat) : Int) = t + m + 12 * y := by omega
  rw [e]
  have bd := mln_bounds (t + m + 12 * y)
  unfold moT
  by_cases c : d ≤ mln (t + m + 12 * y)
  · rw [if_pos c]
    omega
  · rw [if_neg c]
    refine ⟨?_, by omega⟩
    by_cases hm : m = 0
    · subst hm
      have e1 : (t + ((0 : Nat) : Int) + 12 * (y : Int)) % 12 = t % 12 := by omega
      have e0 : t + ((0 : Nat) : Int) = t := by omega
      have hk : d ≤ mln (t + ((0 : Nat) : Int) + 12 * (y : Int)) + 1 := by
        have l1 : mln (t + ((0 : Nat) : Int) + 12 * (y : Int)) = mlI ((t + ((0 : Nat) : Int) + 12 * (y : Int)) / 12) (t % 12 + 1) := by
          unfold mln
          rw [e1]
        have l2 : mln t = mlI (t / 12) (t % 12 + 1) := rfl
        rw [l1]
        rw [l2] at h2
        revert h2
        unfold mlI
        split
        · split <;> split <;> omega
        · split <;> omega
      have e3 : t + ((0 : Nat) : Int) + 12 * (y : Int) = t + 12 * (y : Int) := by omega
      rw [e3] at hk c ⊢
      rw [e3, e0] at a
      omega
    · have s := mst_succ t
      have b' := mst_mono (s := t + 1) (t := t + m) (by omega)
      omega
/-- the specification's list of births -/
theorem births_seg {a : Age} {n : Nat} (hn1 : 1 ≤ n) (hn2 : n ≤ 73049) : ∃ (lo : Int) (len : Nat), (births a n).map (fun (x : Nat) => (x : Int)) = (seg lo len).filter (okB a n) ∧ ∀ x, okB a n x = true → lo ≤ x ∧ x < lo + len := by
  refine ⟨((n + a.less - (366 * a.years + 31 * a.months + 7 * a.weeks + a.days + 40) : Nat) : Int), n + a.less - (365 * a.years + 28 * a.months + 7 * a.weeks + a.days) + 1 - (n + a.less - (366 * a.years + 31 * a.months + 7 * a.weeks + a.days + 40)), ?_, ?_⟩
  · unfold births
    show ((((List.range (n + a.less - (365 * a.years + 28 * a.months + 7 * a.weeks + a.days) + 1 - (n + a.less - (366 * a.years + 31 * a.months + 7 * a.weeks + a.days + 40)))).map fun (i : Nat) => n + a.less - (366 * a.years + 31 * a.months + 7 * a.weeks + a.days + 40) + i).filter fun (b : Nat) => a.on b == some n)).map (fun (x : Nat) => (x : Int)) = _
    generalize n + a.less - (366 * a.years + 31 * a.months + 7 * a.weeks + a.days + 40) = lo
    generalize n + a.less - (365 * a.years + 28 * a.months + 7 * a.weeks + a.days) + 1 - lo = len
    unfold seg
    have e : (fun (b : Nat) => a.on b == some n) = okB a n ∘ fun (x : Nat) => (x : Int) := by
      funext b
      exact okB_on hn1 hn2
    rw [e, ← List.filter_map, List.map_map]
    rfl
  · intro x hx
    unfold okB at hx
    rw [Bool.and_eq_true, decide_eq_true_eq, decide_eq_true_eq] at hx
    obtain ⟨⟨x1, x2⟩, hr⟩ := hx
    obtain ⟨hy, hd⟩ := dateOf_ok (n := x.toNat) (by omega) (by omega)
    have e := mo_eq (k := wm a) (by omega) (by omega) hd
    obtain ⟨c, d1, d2⟩ := hd.t
    have f := moT_far (y := a.years) (m := a.months) d1 d2
    have ew : ((12 * a.years + a.months : Nat) : Int) = (wm a : Int) := rfl
    rw [ew, ← e] at f
    unfold reck dm at hr
    omega
/-- the program's: the days of two months -/
theorem births_eq {a : Age} {n : Nat} (hn1 : 1 ≤ n) (hn2 : n ≤ 73049) {t : Int} (h1 : mst t < (n : Int) - dm a) (h2 : (n : Int) - dm a ≤ mst (t + 1)) :
    (seg (mst (t - wm a - 1) + 1) (mln (t - wm a - 1)).toNat ++ seg (mst (t - wm a) + 1) (mln (t - wm a)).toNat).filter (okB a n) = (births a n).map (fun (x : Nat) => (x : Int)) := by
  obtain ⟨lo, len, e, hin⟩ := births_seg (a := a) hn1 hn2
  rw [e]
  have s := mst_succ (t - wm a - 1)
  have e1 : t - wm a - 1 + 1 = t - wm a := by omega
  rw [e1] at s
  have b := mln_bounds (t - wm a - 1)
  have b2 := mln_bounds (t - wm a)
  have e2 : mst (t - wm a) + 1 = mst (t - wm a - 1) + 1 + ((mln (t - wm a - 1)).toNat : Int) := by omega
  rw [e2, ← seg_add]
  refine seg_same (fun x hx => ?_) hin
  unfold okB at hx
  rw [Bool.and_eq_true, decide_eq_true_eq, decide_eq_true_eq] at hx
  obtain ⟨⟨x1, x2⟩, hr⟩ := hx
  obtain ⟨hy, hd⟩ := dateOf_ok (n := x.toNat) (by omega) (by omega)
  have em := mo_eq (k := wm a) (by omega) (by omega) hd
  obtain ⟨c, d1, d2⟩ := hd.t
  generalize 12 * ((dateOf x.toNat).y : Int) + ((dateOf x.toNat).m : Int) - 1 = tb at *
  have mb := moT_bounds (tb + wm a) ((dateOf x.toNat).d : Int) d1
  unfold reck at hr
  have s2 := mst_succ (t - wm a)
  have s3 := mst_succ tb
  -- the birth's month is one of the two
  have k1 : tb ≤ t - wm a := by
    by_cases q : tb ≤ t - wm a
    · exact q
    · have := mst_mono (s := t + 1) (t := tb + wm a) (by omega)
      omega
  have k2 : t - wm a - 1 ≤ tb := by
    by_cases q : t - wm a - 1 ≤ tb
    · exact q
    · have m1 := mst_mono (s := tb + wm a + 1) (t := t - 1) (by omega)
      have m2 := mst_mono (s := t - 1) (t := t) (by omega)
      omega
  have u1 := mst_mono (s := t - wm a - 1) (t := tb) k2
  have u2 := mst_mono (s := tb + 1) (t := t - wm a + 1) (by omega)
  omega
/-- where the months would come to no day: nobody -/
theorem births_nil {a : Age} {n : Nat} (hn1 : 1 ≤ n) (hn2 : n ≤ 73049) (h : (n : Int) - dm a < 1) : births a n = [] := by
  obtain ⟨lo, len, e, hin⟩ := births_seg (a := a) hn1 hn2
  have : (seg lo len).filter (okB a n) = [] := by
    rw [List.filter_eq_nil_iff]
    intro x hx hp
    unfold okB at hp
    rw [Bool.and_eq_true, decide_eq_true_eq, decide_eq_true_eq] at hp
    obtain ⟨⟨x1, x2⟩, hr⟩ := hp
    have m0 := mo_mono (b := x.toNat) (k := 0) (j := wm a) (by omega) (by omega) (by omega)
    rw [mo_zero (by omega) (by omega)] at m0
    unfold reck at hr
    omega
  rw [this] at e
  exact List.map_eq_nil_iff.mp e
end Ag

/-! Texts of ages and dates, read and written by places: the mirror of the program's defs. -/
namespace Ag
abbrev Er := Except (Int × Int)
def digI (b : Int) : Bool := decide (48 ≤ b) && decide (b ≤ 57)
/-- what digits tell -/
def valI (ds : List Int) : Int := ds.foldl (fun n b => 10 * n + b - 48) 0
/-- the bytes of a number -/
def decI (n : Nat) : List Int := (Nat.toDigits 10 n).map fun c => (c.toNat : Int)
/-- how many digits from a place on -/
def run (ns : List Int) (p : Nat) : Nat := ((ns.drop p).takeWhile digI).length
def slice (ns : List Int) (p q : Nat) : List Int := (ns.drop p).take (q - p)
def byteAt (ns : List Int) (p : Nat) : Er Int := match ns[p]? with
  | none => .error (1, p)
  | some b => .ok b
def numEnd (ns : List Int) (p : Nat) : Er Nat := match ns[p]? with
  | none => .error (1, p)
  | some b => if digI b = false then .error (2, p) else if b = 48 ∨ 4 < run ns p then .error (3, p) else .ok (p + run ns p)
def unitIx (b : Int) : Option Nat := if b = 121 then some 0 else if b = 109 then some 1 else if b = 119 then some 2 else if b = 100 then some 3 else none
def unitAt (ns : List Int) (p : Nat) (before : Int) : Er Nat := match ns[p]? with
  | none => .error (1, p)
  | some b => match unitIx b with
    | none => .error (2, p)
    | some u => if (u : Int) ≤ before then .error (4, p) else .ok u
def nothingI (ns : List Int) : Er (List Int) := match ns[1]? with
  | none => .error (1, 1)
  | some b => if b ≠ 100 then .error (3, 0) else if 2 < ns.length then .error (2, 2) else .ok [0, 0, 0, 0, 0]
def unitsI (ns : List Int) : Nat → List Int → Int → Nat → Er (List Int × Nat)
  | 0, _, _, p => .error (1, p)
  | f + 1, us, u, p => match numEnd ns p with
    | .error e => .error e
    | .ok e => match unitAt ns e u with
      | .error x => .error x
      | .ok v => if v ≠ 3 ∧ ns[e + 1]? = some 43 then unitsI ns f (us.set v (valI (slice ns p e))) v (e + 2) else .ok (us.set v (valI (slice ns p e)), e + 1)
def lessI (ns : List Int) (p : Nat) : Er Int := match ns[p]? with
  | none => .ok 0
  | some b => if b ≠ 45 then .error (2, p) else match numEnd ns (p + 1) with
    | .error e => .error e
    | .ok e => match ns[e]? with
      | none => .error (1, e)
      | some c => if c ≠ 100 then .error (2, e) else if e + 1 < ns.length then .error (2, (e : Int) + 1) else .ok (valI (slice ns (p + 1) e))
def rdAge (ns : List Int) : Er (List Int) := match ns[0]? with
  | none => .error (1, 0)
  | some b => if b = 48 then nothingI ns else match unitsI ns (ns.length + 1) [0, 0, 0, 0] (-1) 0 with
    | .error e => .error e
    | .ok (us, p) => match lessI ns p with
      | .error e => .error e
      | .ok l => .ok (us ++ [l])

/-! ### what is needed of these -/
theorem run_le (ns : List Int) (p : Nat) (h : p ≤ ns.length) : p + run ns p ≤ ns.length := by
  unfold run
  have := (List.takeWhile_prefix digI (l := ns.drop p)).length_le
  rw [List.length_drop] at this
  omega
theorem run_pos {ns : List Int} {p : Nat} {b : Int} (h : ns[p]? = some b) (d : digI b = true) : 1 ≤ run ns p := by
  unfold run
  obtain ⟨h1, h2⟩ := List.getElem?_eq_some_iff.mp h
  rw [List.drop_eq_getElem_cons h1, h2, List.takeWhile_cons, if_pos d, List.length_cons]
  omega
/-- inside the run there are digits, behind it none -/
theorem run_in {ns : List Int} {p j : Nat} (h : j < run ns p) : ∃ b, ns[p + j]? = some b ∧ digI b = true := by
  unfold run at h
  have hm := List.takeWhile_prefix (p := digI) (l := ns.drop p)
  obtain ⟨t, ht⟩ := hm
  have e : (ns.drop p)[j]? = ((ns.drop p).takeWhile digI)[j]? := by
    conv => lhs; rw [← ht]
    rw [List.getElem?_append_left h]
  rw [List.getElem?_drop] at e
  have q : ((ns.drop p).takeWhile digI)[j]? = some ((ns.drop p).takeWhile digI)[j] := List.getElem?_eq_getElem h
  refine ⟨_, e.trans q, ?_⟩
  exact List.all_eq_true.mp (List.all_takeWhile (p := digI) (l := ns.drop p)) _ (List.getElem_mem h)
theorem run_out {ns : List Int} {p : Nat} {b : Int} (h : ns[p + run ns p]? = some b) : digI b = false := by
  unfold run at h
  rw [← List.getElem?_drop] at h
  generalize ns.drop p = l at h
  induction l with
  | nil => simp at h
  | cons x r ih =>
    rw [List.takeWhile_cons] at h
    cases q : digI x with
    | true =>
      rw [q] at h
      exact ih (by simpa using h)
    | false =>
      rw [q] at h
      have e : x = b := by simpa using h
      rw [← e]; exact q
theorem numEnd_le {ns : List Int} {p e : Nat} (h : numEnd ns p = .ok e) : p < e ∧ e ≤ ns.length ∧ p < ns.length := by
  unfold numEnd at h
  split at h
  · cases h
  · rename_i b hb
    obtain ⟨h1, h2⟩ := List.getElem?_eq_some_iff.mp hb
    split at h
    · cases h
    · rename_i hd
      have d : digI b = true := by
        cases q : digI b with
        | true => rfl
        | false => exact absurd q hd
      split at h
      · cases h
      · have e' : p + run ns p = e := Except.ok.inj h
        have a := run_pos hb d
        have c := run_le ns p (by omega)
        omega
theorem unitAt_lt {ns : List Int} {p u : Nat} {b : Int} (h : unitAt ns p b = .ok u) : u < 4 ∧ p < ns.length ∧ b < u := by
  unfold unitAt at h
  split at h
  · cases h
  · rename_i c hc
    obtain ⟨h1, h2⟩ := List.getElem?_eq_some_iff.mp hc
    split at h
    · cases h
    · rename_i v hv
      split at h
      · cases h
      · have e : v = u := Except.ok.inj h
        subst e
        unfold unitIx at hv
        refine ⟨?_, h1, by omega⟩
        repeat' split at hv
        all_goals first
          | (have := Option.some.inj hv; omega)
          | cases hv
theorem lessI_none {ns : List Int} {p : Nat} (h : ns[p]? = none) : lessI ns p = .ok 0 := by
  unfold lessI
  rw [h]
theorem lessI_some {ns : List Int} {p : Nat} {b : Int} (h : ns[p]? = some b) : lessI ns p = if b ≠ 45 then .error (2, (p : Int)) else match numEnd ns (p + 1) with
    | .error e => .error e
    | .ok e => match ns[e]? with
      | none => .error (1, (e : Int))
      | some c => if c ≠ 100 then .error (2, (e : Int)) else if e + 1 < ns.length then .error (2, (e : Int) + 1) else .ok (valI (slice ns (p + 1) e)) := by
  unfold lessI
  rw [h]
theorem rdAge_none {ns : List Int} (h : ns[0]? = none) : rdAge ns = .error (1, 0) := by
  unfold rdAge
  rw [h]
theorem rdAge_some {ns : List Int} {b : Int} (h : ns[0]? = some b) : rdAge ns = if b = 48 then nothingI ns else match unitsI ns (ns.length + 1) [0, 0, 0, 0] (-1) 0 with
    | .error e => .error e
    | .ok (us, p) => match lessI ns p with
      | .error e => .error e
      | .ok l => .ok (us ++ [l]) := by
  unfold rdAge
  rw [h]
theorem unitsI_ok (ns : List Int) : ∀ (f : Nat) (us : List Int) (u : Int) (p : Nat) (us' : List Int) (p' : Nat), unitsI ns f us u p = .ok (us', p') → us'.length = us.length ∧ p' ≤ ns.length
  | 0, us, u, p, us', p', h => by
    unfold unitsI at h
    cases h
  | f + 1, us, u, p, us', p', h => by
    unfold unitsI at h
    cases hn : numEnd ns p with
    | error e => rw [hn] at h; cases h
    | ok e =>
      rw [hn] at h
      dsimp only at h
      cases hu : unitAt ns e u with
      | error x => rw [hu] at h; cases h
      | ok v =>
        rw [hu] at h
        dsimp only at h
        by_cases c : v ≠ 3 ∧ ns[e + 1]? = some 43
        · rw [if_pos c] at h
          have ih := unitsI_ok ns f _ _ _ _ _ h
          rw [List.length_set] at ih
          exact ih
        · rw [if_neg c] at h
          have q := Except.ok.inj h
          have q1 : us.set v (valI (slice ns p e)) = us' := (Prod.mk.inj q).1
          have q2 : e + 1 = p' := (Prod.mk.inj q).2
          have := (unitAt_lt hu).2.1
          rw [← q1, List.length_set]
          exact ⟨rfl, by omega⟩
end Ag

/-! The ground: the text's defs by their places; a def that may be called by its name. -/
namespace Ag
open PySem PySem.Spec PyProof.Rows L2

def topS (i : Nat) : Stmt := PySem.Challenge.pw_agedays_s01_answers.main.body.getD i (.Pass ⟨0, 0, 0, 0⟩)
/-- the def of that name stands, as the text has it -/
def Dfn (K : PySem.W.Frag) (mg : Str → Option Value) (x : Str) (st : Stmt) : Prop := ∃ f fd, Fun K x x st f fd ∧ mg x = some (.ref f)
theorem dfn_mk {K : PySem.W.Frag} {mg : Str → Option Value} {h : Heap} {x : Str} {st : Stmt} {f : Addr} {oc : Value} {od an : Option Addr} {osl : Array (Option Value)} {kV doc pm cdv ct : Value} (X : K.In h) (G : h.Ns mainGlobals mg)
    (a : PySem.W.nsIn K mainGlobals x = some (some (.ref f)))
    (l : K.lookup f = some ⟨oc, od, .func (PySem.W.fnOf x x (defArgs st) (defBody st) (defScope st) .none kV doc pm an cdv ct), osl⟩)
    (c : PySem.W.codeIn K cdv x = true) (k : PySem.W.keepIn K (.ref f) = true) : Dfn K mg x st := ⟨f, _, fun_mk l c k, PySem.W.mg_of X G a⟩
def Con1 (mg : Str → Option Value) (x : Str) (v : Int) : Prop := ∃ t, mg x = some (.int v t)
theorem con_mk {K : PySem.W.Frag} {mg : Str → Option Value} {h : Heap} {x : Str} {v : Int} {t : Tok} (X : K.In h) (G : h.Ns mainGlobals mg) (a : PySem.W.nsIn K mainGlobals x = some (some (.int v t))) : Con1 mg x v := ⟨t, PySem.W.mg_of X G a⟩
end Ag

/-! Words: a def that may be called by its name (Cal); promises by their arguments' kinds; heaps that only grow. -/
namespace Ag
open PySem PySem.Spec PyProof.Rows L2

/-! ### constants, names -/
section
variable {X : Cx}
theorem pe_k {x : Str} {v : Int} {pos : Pos} (h : Con1 X.mg x v) (hg : Gl X x := by rfl) (hd : (x == ("__debug__" : Str)) = false := by decide) : PE X (.Name x pos) (tC (.int v)) := by
  obtain ⟨t, e⟩ := h
  exact pe_glob hg e ⟨t, rfl⟩ hd
theorem pe_r {x : Str} {a : Addr} {pos : Pos} (h : X.mg x = some (.ref a)) (hg : Gl X x := by rfl) (hd : (x == ("__debug__" : Str)) = false := by decide) : PE X (.Name x pos) (tC (.ref a)) := pe_glob hg h rfl hd
end

/-! ### defs -/
/-- a def that may be called by its name -/
structure Cal (P : Program) (w : World) (K : PySem.W.Frag) (mg : Str → Option Value) (base : Heap) (C : CXT) (k : Nat) (x : Str) (sp : Sp) : Prop where
  ex : ∃ (f : Addr) (fd : FuncData) (ps : List Str), FnOk P w K mg base C k f fd ps sp ∧ mg x = some (.ref f) ∧ PySem.W.keepIn K (.ref f) = true ∧ Binds K fd ps []
section
variable {P : Program} {w : World} {K : PySem.W.Frag} {mg : Str → Option Value} {base : Heap}
theorem cal0 {x : Str} {st : Stmt} {N ps : List Str} {k : Nat} {sp : Sp} (D : Dfn K mg x st) (S : FnScope N ps (defScope st)) (len : ∀ vs H Q E, sp vs H Q E → vs.length = ps.length)
    (hb : ∀ (kV doc pm : Value) (an : Option Addr) (cdv ct : Value) (us : List Value), us.length = ps.length → bindArgs (PySem.W.fnOf x x (defArgs st) (defBody st) (defScope st) .none kV doc pm an cdv ct) ⟨us, []⟩ = pure (ps.zip us))
    (hbody : ∀ (f : Addr) (cdv : Value) (A : Around) (outer : List Env) (s : Shared) (H : Hp) (vs : List V) (Q : VK) (E : XK), Room k (A.deeper (envOfC x (defScope st) s.heap.objs.size f cdv)) → sp vs H Q E →
      ∃ t, PSs (cxOf CX0 P w K mg base N x (defScope st) f cdv A outer s H E).nox (defBody st) t ∧ t { nx := fun _ H' => Q .non H', rt := Q } (start N vs) H) : Cal P w K mg base CX0 (k + 1) x sp := by
  obtain ⟨f, fd, F, m⟩ := D
  exact ⟨f, fd, ps, F.ok S len (fun cdv A outer s H vs Q E hr h => hbody f cdv A outer s H vs Q E hr h), m, F.kp, F.binds hb⟩
theorem calX {x : Str} {st : Stmt} {N ps : List Str} {k : Nat} {sp : Sp} (D : Dfn K mg x st) (S : FnScope N ps (defScope st)) (len : ∀ vs H Q E, sp vs H Q E → vs.length = ps.length)
    (hb : ∀ (kV doc pm : Value) (an : Option Addr) (cdv ct : Value) (us : List Value), us.length = ps.length → bindArgs (PySem.W.fnOf x x (defArgs st) (defBody st) (defScope st) .none kV doc pm an cdv ct) ⟨us, []⟩ = pure (ps.zip us))
    (hbody : ∀ (f : Addr) (cdv : Value) (A : Around) (outer : List Env) (s : Shared) (H : Hp) (vs : List V) (Q : VK) (E : XK), Room k (A.deeper (envOfC x (defScope st) s.heap.objs.size f cdv)) → sp vs H Q E →
      ∃ t, PSs (cxOf (L2.CX P w) P w K mg base N x (defScope st) f cdv A outer s H E) (defBody st) t ∧ t { nx := fun _ H' => Q .non H', rt := Q } (start N vs) H) : Cal P w K mg base (L2.CX P w) (k + 1) x sp := by
  obtain ⟨f, fd, F, m⟩ := D
  exact ⟨f, fd, ps, F.okX S len (fun cdv A outer s H vs Q E hr h => hbody f cdv A outer s H vs Q E hr h), m, F.kp, F.binds hb⟩
end
section
variable {X : Cx} {k j : Nat} {x : Str} {sp : Sp} {p pos : Pos} {e : Expr} {es : List Expr} {t : TA} {W : WX}
/-- f(e, ..), nothing is raised -/
theorem pe_f (c : Cal X.prog X.w X.K X.mg X.base CX0 k x sp) (hr : Room j X.A) (hk : k ≤ j) (ha : PA X (e :: es) t) (hg : Gl X x := by rfl)
    (hdb : (x == ("__debug__" : Str)) = false := by decide) (he : starEach (e :: es) X.env = (false, eval e X.env) :: starEach es X.env := by rfl) (hpl : (backTo pos (starEach es X.env)).any (·.1) = false := by rfl) :
    PE X (.Call (.Name x p) (e :: es) [] pos) (tCall sp [] E0 t) := by
  obtain ⟨f, fd, ps, F, m, kp, b⟩ := c.ex
  exact pe_call F (hr.mono hk) hg m kp b .nil pass0 ha hdb he hpl
/-- f(e, ..), what is raised is taken -/
theorem pe_fX (c : Cal X.prog X.w X.K X.mg X.base (L2.CX X.prog X.w) k x sp) (tk : Takes X W) (hr : Room j X.A) (hk : k ≤ j) (ha : PA X (e :: es) t) (hg : Gl X x := by rfl)
    (hdb : (x == ("__debug__" : Str)) = false := by decide) (he : starEach (e :: es) X.env = (false, eval e X.env) :: starEach es X.env := by rfl) (hpl : (backTo pos (starEach es X.env)).any (·.1) = false := by rfl) :
    PE X (.Call (.Name x p) (e :: es) [] pos) (tCallS sp (WE W) t) := by
  obtain ⟨f, fd, ps, F, m, kp, b⟩ := c.ex
  exact pe_callS F (hr.mono hk) hg m kp b (fun σ => passAt tk σ) ha hdb he hpl
end

/-! ### promises by the arguments' kinds -/
abbrev Ph := Hp → VK → XK → Prop
def sI (φ : Int → Ph) : Sp := fun vs H Q E => ∃ i, vs = [.int i] ∧ φ i H Q E
def sII (φ : Int → Int → Ph) : Sp := fun vs H Q E => ∃ i j, vs = [.int i, .int j] ∧ φ i j H Q E
def sIII (φ : Int → Int → Int → Ph) : Sp := fun vs H Q E => ∃ i j k, vs = [.int i, .int j, .int k] ∧ φ i j k H Q E
def sIIII (φ : Int → Int → Int → Int → Ph) : Sp := fun vs H Q E => ∃ i j k l, vs = [.int i, .int j, .int k, .int l] ∧ φ i j k l H Q E
def sR (φ : Addr → Ph) : Sp := fun vs H Q E => ∃ a, vs = [.ref a] ∧ φ a H Q E
def sRI (φ : Addr → Int → Ph) : Sp := fun vs H Q E => ∃ a i, vs = [.ref a, .int i] ∧ φ a i H Q E
def sIR (φ : Int → Addr → Ph) : Sp := fun vs H Q E => ∃ i a, vs = [.int i, .ref a] ∧ φ i a H Q E
def sRII (φ : Addr → Int → Int → Ph) : Sp := fun vs H Q E => ∃ a i j, vs = [.ref a, .int i, .int j] ∧ φ a i j H Q E
def sRR (φ : Addr → Addr → Ph) : Sp := fun vs H Q E => ∃ a b, vs = [.ref a, .ref b] ∧ φ a b H Q E
def sIRR (φ : Int → Addr → Addr → Ph) : Sp := fun vs H Q E => ∃ i a b, vs = [.int i, .ref a, .ref b] ∧ φ i a b H Q E
def sIIRR (φ : Int → Int → Addr → Addr → Ph) : Sp := fun vs H Q E => ∃ i j a b, vs = [.int i, .int j, .ref a, .ref b] ∧ φ i j a b H Q E
theorem lI {φ : Int → Ph} (vs H Q E) (h : sI φ vs H Q E) : vs.length = 1 := by obtain ⟨_, rfl, _⟩ := h; rfl
theorem lII {φ : Int → Int → Ph} (vs H Q E) (h : sII φ vs H Q E) : vs.length = 2 := by obtain ⟨_, _, rfl, _⟩ := h; rfl
theorem lIII {φ : Int → Int → Int → Ph} (vs H Q E) (h : sIII φ vs H Q E) : vs.length = 3 := by obtain ⟨_, _, _, rfl, _⟩ := h; rfl
theorem lIIII {φ : Int → Int → Int → Int → Ph} (vs H Q E) (h : sIIII φ vs H Q E) : vs.length = 4 := by obtain ⟨_, _, _, _, rfl, _⟩ := h; rfl
theorem lR {φ : Addr → Ph} (vs H Q E) (h : sR φ vs H Q E) : vs.length = 1 := by obtain ⟨_, rfl, _⟩ := h; rfl
theorem lRI {φ : Addr → Int → Ph} (vs H Q E) (h : sRI φ vs H Q E) : vs.length = 2 := by obtain ⟨_, _, rfl, _⟩ := h; rfl
theorem lIR {φ : Int → Addr → Ph} (vs H Q E) (h : sIR φ vs H Q E) : vs.length = 2 := by obtain ⟨_, _, rfl, _⟩ := h; rfl
theorem lRII {φ : Addr → Int → Int → Ph} (vs H Q E) (h : sRII φ vs H Q E) : vs.length = 3 := by obtain ⟨_, _, _, rfl, _⟩ := h; rfl
theorem lRR {φ : Addr → Addr → Ph} (vs H Q E) (h : sRR φ vs H Q E) : vs.length = 2 := by obtain ⟨_, _, rfl, _⟩ := h; rfl
theorem lIRR {φ : Int → Addr → Addr → Ph} (vs H Q E) (h : sIRR φ vs H Q E) : vs.length = 3 := by obtain ⟨_, _, _, rfl, _⟩ := h; rfl
theorem lIIRR {φ : Int → Int → Addr → Addr → Ph} (vs H Q E) (h : sIIRR φ vs H Q E) : vs.length = 4 := by obtain ⟨_, _, _, _, rfl, _⟩ := h; rfl

/-! ### heaps -/
theorem same_new {H : Hp} {p : Addr} {o : HO} (h : H p = none) : Same H (upd H p o) := fun b x e => by
  rw [upd_ne (ne_of_none e h)]
  exact e
/-- what H doesn't know may change -/
theorem _root_.L2.Same.chg {H H' : Hp} (s : Same H H') {p : Addr} {o : HO} (h : H p = none) : Same H (upd H' p o) := fun b x e => by
  rw [upd_ne (ne_of_none e h)]
  exact s b x e
theorem _root_.L2.Same.new {H H' : Hp} (s : Same H H') {p : Addr} {o : HO} (h : H' p = none) : Same H (upd H' p o) := s.trans (same_new h)
theorem _root_.L2.Same.tup {K : PySem.W.Frag} {H H' : Hp} {a : Addr} {xs : List V} (e : Same H H') (h : SqT K H a xs) : SqT K H' a xs := by
  rcases h with (h | ⟨o, h⟩) | h
  · exact .inl (.inl (e _ _ h))
  · exact .inl (.inr ⟨o, e _ _ h⟩)
  · exact .inr h
theorem of_decide {c : Prop} [Decidable c] {A B : Prop} (h1 : c → A) (h2 : ¬ c → B) : if decide c = true then A else B := by
  by_cases h : c
  · rw [decide_eq_true h, if_pos rfl]
    exact h1 h
  · rw [decide_eq_false h, if_neg Bool.false_ne_true]
    exact h2 h
theorem of_bool {b : Bool} {A B : Prop} (h1 : b = true → A) (h2 : b = false → B) : if b = true then A else B := by
  cases b with
  | true => rw [if_pos rfl]; exact h1 rfl
  | false => rw [if_neg Bool.false_ne_true]; exact h2 rfl
theorem of_not {b : Bool} {A B : Prop} (h1 : b = false → A) (h2 : b = true → B) : if (!b) = true then A else B := by
  cases b with
  | true => exact iteF (h2 rfl)
  | false => exact iteT (h1 rfl)
theorem dec_int {i j : Int} : decide (V.int i = V.int j) = decide (i = j) := by
  by_cases h : i = j
  · rw [h]; simp
  · have : ¬ V.int i = V.int j := fun e => h (V.int.inj e)
    rw [decide_eq_false h, decide_eq_false this]

theorem of_eqI {i j : Int} {A B : Prop} (h1 : i = j → A) (h2 : ¬ i = j → B) : if decide (V.int i = V.int j) = true then A else B := by
  rw [dec_int]
  exact of_decide h1 h2
theorem of_neI {i j : Int} {A B : Prop} (h1 : ¬ i = j → A) (h2 : i = j → B) : if (!decide (V.int i = V.int j)) = true then A else B := by
  rw [dec_int]
  by_cases h : i = j
  · rw [decide_eq_true h]
    exact iteF (h2 h)
  · rw [decide_eq_false h]
    exact iteT (h1 h)
theorem small (n : Nat) (h : n ≤ 16777215) : n < sizeLine := by
  rw [sizeLine_eq]
  omega
theorem small' (n : Nat) (h : n ≤ 16777216) : n ≤ sizeLine := by
  rw [sizeLine_eq]
  omega
theorem tYes_of {σ : L2.St} {H : Hp} {Q : Bool → Hp → Prop} (h : Q true H) : tYes σ H Q := h
/-- a comprehension without tests: the values, one by one; what stood stands -/
theorem lc_map {J : It} {n : Nat} {G : Hp → Prop} {Y : Nat → Hp → V → Hp → Prop} (w : Walk J n G Y) {i : Nat} {te : TE} {σ : L2.St} {H1 : Hp} {D : Addr} {Qd : Hp → Prop} (item val : Nat → V)
    (hY : ∀ j H x H', j < n → Y j H x H' → H' = H ∧ x = item j) (hD : H1 D = none) (hn : n < sizeLine) (hG : ∀ H, Same H1 H → G H) (hw : ∀ v, wipe ((wipe σ [i]).set i (some v)) [i] = wipe σ [i])
    (he : ∀ j H, j < n → Same H1 H → ∀ Q : VK, (∀ H4, Same H H4 → Q (val j) H4) → te ((wipe σ [i]).set i (some (item j))) H Q)
    (hd : ∀ H, Same H1 H → H D = some (.lst ((List.range n).map val)) → Qd H) :
    ∃ W : Nat → Nat → Hp → Prop, (∃ m, W 0 m (upd H1 D (.lst []))) ∧ ∀ k m H, W k m H →
      (J.stop k H ∧ Qd H) ∨ (J.go k H ∧ ∃ Nx : Hp → Prop, (∀ H', Nx H' → ∃ m', m' < m ∧ W (k + 1) m' H') ∧ ∀ x H', J.yld k H x H' → gName i x (wipe σ [i]) H' fun σ2 H2 => wipe σ2 [i] = wipe σ [i] ∧ tYes σ2 H2 fun b H3 =>
        if b = true then te σ2 H3 fun y H4 => ∃ acc, H4 D = some (.lst acc) ∧ acc.length < sizeLine ∧ Nx (upd H4 D (.lst (acc ++ [y]))) else Nx H3) := by
  refine lc_it w (fun j H => Same H1 H ∧ H D = some (.lst ((List.range j).map val))) ⟨same_new hD, upd_same⟩ (fun j H _ p => hG H p.1) ?_ (fun H p => hd H p.1 p.2)
  rintro j x H H' hj ⟨s, eD⟩ y
  obtain ⟨rfl, rfl⟩ := hY j H x H' hj y
  refine ⟨hw _, ?_⟩
  refine tYes_of ?_
  rw [if_pos rfl]
  refine he j H' hj s _ fun H4 s4 => ⟨_, s4 _ _ eD, ?_, (s.trans s4).chg hD, ?_⟩
  · rw [List.length_map, List.length_range]
    omega
  · rw [upd_same, List.range_succ, List.map_append]
    rfl
theorem rng_Y {lo : Int} {n : Nat} (j : Nat) (H : Hp) (x : V) (H' : Hp) (_ : j < n) (y : YFn (fun i => .int (lo + i)) j H x H') : H' = H ∧ x = .int (lo + j) := y
theorem lst_Y {ns : List Int} (j : Nat) (H : Hp) (x : V) (H' : Hp) (hj : j < (ns.map V.int).length) (y : YAt (ns.map V.int) j H x H') : H' = H ∧ x = .int (ns.getD j 0) := by
  obtain ⟨e, y⟩ := y
  refine ⟨e, ?_⟩
  rw [List.length_map] at hj
  rw [List.getElem?_map, List.getElem?_eq_getElem hj] at y
  rw [List.getD_eq_getElem?_getD, List.getElem?_eq_getElem hj]
  exact (Option.some.inj y).symm
theorem range_getD {ns : List Int} {β : Type} (f : Int → β) : (List.range ns.length).map (fun j => f (ns.getD j 0)) = ns.map f := by
  apply List.ext_getElem
  · rw [List.length_map, List.length_range, List.length_map]
  · intro i h1 h2
    rw [List.length_map, List.length_range] at h1
    rw [List.getElem_map, List.getElem_range, List.getElem_map, List.getD_eq_getElem?_getD, List.getElem?_eq_getElem h1]
    rfl

/-! ### the text's built-in names that no module binds -/
structure Free (mg : Str → Option Value) : Prop where
  n_len : mg "len" = none
  n_sum : mg "sum" = none
  n_all : mg "all" = none
  n_range : mg "range" = none
  n_zip : mg "zip" = none
  n_str : mg "str" = none
  n_ord : mg "ord" = none
  n_Exception : mg "Exception" = none
end Ag

/-! The facts of the top; the calendar's defs. -/
namespace Ag
open PySem PySem.Spec PyProof.Rows L2

/-- what the top has written: constants, tuples; no module binds the built-in names -/
structure Txt (K : PySem.W.Frag) (mg : Str → Option Value) (aL aT aH : Addr) : Prop where
  c_FIRST_YEAR : Con1 mg "FIRST_YEAR" 1900
  c_LAST_YEAR : Con1 mg "LAST_YEAR" 2099
  c_LAST_DAY : Con1 mg "LAST_DAY" 73049
  c_MONTHS : Con1 mg "MONTHS" 12
  c_WEEK : Con1 mg "WEEK" 7
  c_PARTS : Con1 mg "PARTS" 5
  c_MOST : Con1 mg "MOST" 9999
  c_WRONG : Con1 mg "WRONG" (-1)
  c_NOTHING_SUCH : Con1 mg "NOTHING_SUCH" (-2)
  c_FAULTY : Con1 mg "FAULTY" (-6)
  c_TOO_SOON : Con1 mg "TOO_SOON" 1
  c_WRONG_BYTE : Con1 mg "WRONG_BYTE" 2
  c_NO_SUCH_DATE : Con1 mg "NO_SUCH_DATE" 3
  c_BAD_NUMBER : Con1 mg "BAD_NUMBER" 3
  c_WRONG_ORDER : Con1 mg "WRONG_ORDER" 4
  c_PLUS : Con1 mg "PLUS" 43
  c_HYPHEN : Con1 mg "HYPHEN" 45
  c_ZERO : Con1 mg "ZERO" 48
  c_NINE : Con1 mg "NINE" 57
  c_DAYS : Con1 mg "DAYS" 3
  c_LESS : Con1 mg "LESS" 4
  c_LETTER_OF_DAYS : Con1 mg "LETTER_OF_DAYS" 100
  c_MOST_DIGITS : Con1 mg "MOST_DIGITS" 4
  c_MOST_IN_ROW : Con1 mg "MOST_IN_ROW" 64
  c_MOST_BIRTHS : Con1 mg "MOST_BIRTHS" 2000
  c_TEXT_LENGTH : Con1 mg "TEXT_LENGTH" 10
  fr : Free mg
  gL : mg "LENGTHS" = some (.ref aL)
  sL : ∀ H, SqT K H aL ([31, 28, 31, 30, 31, 30, 31, 31, 30, 31, 30, 31].map V.int)
  gT : mg "LETTERS" = some (.ref aT)
  sT : ∀ H, SqT K H aT ([121, 109, 119, 100].map V.int)
  kT : ∃ o, K.lookup aT = some o ∧ o.cls = .type "tuple" ∧ o.dict = none
  gH : mg "HYPHENS" = some (.ref aH)
  sH : ∀ H, SqT K H aH ([4, 7].map V.int)

section
variable {P : Program} {w : World} {K : PySem.W.Frag} {mg : Str → Option Value} {base : Heap} {aL aT aH : Addr}

/-! ### is_day -/
abbrev s_is_day : Stmt := topS 7
abbrev N_is_day : List Str := ["n"]
theorem sc_is_day : FnScope N_is_day ["n"] (defScope s_is_day) := ⟨rfl, rfl, rfl, by decide +kernel, rfl, by decide +kernel, by decide +kernel⟩
def isDayI (n : Int) : Bool := decide (1 ≤ n) && decide (n ≤ 73049)
def sp_is_day : Sp := sI fun n H Q _ => Q (.bl (isDayI n)) H
theorem ok_is_day (T : Txt K mg aL aT aH) (D : Dfn K mg "is_day" s_is_day) : Cal P w K mg base CX0 1 "is_day" sp_is_day := by
  refine cal0 D sc_is_day lI (fun _ _ _ _ _ _ us hl => match us, hl with | [_], _ => rfl) fun f cdv A outer s H vs Q E hr h => ?_
  obtain ⟨n, rfl, q⟩ := h
  refine ⟨_, (pss_one (ps_ret (pe_chain op_le op_le pe_int (pv 0) (pe_k T.c_LAST_DAY)))), ?_⟩
  refine ⟨_, rfl, _, _, rfl, rfl, _, rfl, ?_⟩
  unfold isDayI at q
  refine of_decide (fun c => ?_) (fun c => ?_)
  · rw [decide_eq_true c, Bool.true_and] at q
    exact ⟨_, _, rfl, rfl, q⟩
  · rw [decide_eq_false c, Bool.false_and] at q
    exact q

/-! ### is_leap -/
abbrev s_is_leap : Stmt := topS 8
abbrev N_is_leap : List Str := ["year"]
theorem sc_is_leap : FnScope N_is_leap ["year"] (defScope s_is_leap) := ⟨rfl, rfl, rfl, by decide +kernel, rfl, by decide +kernel, by decide +kernel⟩
def sp_is_leap : Sp := sI fun y H Q _ => Q (.bl (leapI y)) H
theorem ok_is_leap (T : Txt K mg aL aT aH) (D : Dfn K mg "is_leap" s_is_leap) : Cal P w K mg base CX0 1 "is_leap" sp_is_leap := by
  refine cal0 D sc_is_leap lI (fun _ _ _ _ _ _ us hl => match us, hl with | [_], _ => rfl) fun f cdv A outer s H vs Q E hr h => ?_
  obtain ⟨y, rfl, q⟩ := h
  refine ⟨_, (pss_one (ps_ret (pe_and (pe_cmpR op_eq (pe_op op_mod (pv 0) pe_int) pe_int (nomark _)) (pe_one (pe_or (pe_cmpR op_ne (pe_op op_mod (pv 0) pe_int) pe_int (nomark _)) (pe_one (pe_cmpR op_eq (pe_op op_mod (pv 0) pe_int) pe_int (nomark _)))))))), ?_⟩
  unfold leapI at q
  walk_at "ag rd"
  refine of_eqI (fun c => ?_) (fun c => ?_)
  · rw [decide_eq_true c, Bool.true_and] at q
    walk_at "ag rd"
    refine of_neI (fun c2 => ?_) (fun c2 => ?_)
    · rw [decide_eq_false c2] at q
      exact q
    · rw [decide_eq_true c2] at q
      walk_at "ag rd"
      show Q (.bl (decide (V.int (y % 400) = V.int 0))) H
      rw [dec_int]
      exact q
  · rw [decide_eq_false c] at q
    exact q

/-! ### month_length -/
abbrev s_month_length : Stmt := topS 9
abbrev N_month_length : List Str := ["year", "month"]
theorem sc_month_length : FnScope N_month_length ["year", "month"] (defScope s_month_length) := ⟨rfl, rfl, rfl, by decide +kernel, rfl, by decide +kernel, by decide +kernel⟩
def sp_month_length : Sp := sII fun y m H Q _ => 1 ≤ m ∧ m ≤ 12 ∧ Q (.int (mlI y m)) H
theorem len_at {y m : Int} (h1 : 1 ≤ m) (h2 : m ≤ 12) (h : ¬ (m = 2 ∧ leapI y = true)) : atI ([31, 28, 31, 30, 31, 30, 31, 31, 30, 31, 30, 31].map V.int) (m - 1) = some (.int (mlI y m)) := by
  have : m = 1 ∨ m = 2 ∨ m = 3 ∨ m = 4 ∨ m = 5 ∨ m = 6 ∨ m = 7 ∨ m = 8 ∨ m = 9 ∨ m = 10 ∨ m = 11 ∨ m = 12 := by omega
  rcases this with rfl | rfl | rfl | rfl | rfl | rfl | rfl | rfl | rfl | rfl | rfl | rfl <;> first
    | rfl
    | (have e : leapI y = false := by
         cases q : leapI y with
         | false => rfl
         | true => exact absurd ⟨rfl, q⟩ h
       unfold mlI
       rw [e]
       rfl)
theorem ok_month_length (T : Txt K mg aL aT aH) (D : Dfn K mg "month_length" s_month_length) (C_is_leap : Cal P w K mg base CX0 1 "is_leap" sp_is_leap) : Cal P w K mg base CX0 2 "month_length" sp_month_length := by
  refine cal0 D sc_month_length lII (fun _ _ _ _ _ _ us hl => match us, hl with | [_, _], _ => rfl) fun f cdv A outer s H vs Q E hr h => ?_
  obtain ⟨y, m, rfl, h1, h2, q⟩ := h
  refine ⟨_, (pss_cons (ps_if (PW.pt (pw_and (pt_cmpR op_eq (pv 1) pe_int (nomark _)) (pw_and1 (pt_val (pe_f C_is_leap hr (by decide) (pa_cons (pv 0) pa_nil)))))) (pss_one (ps_ret pe_int)) pss_nil)
    (pss_one (ps_ret (pe_ix ix_tup (pe_r T.gL) (pe_op op_sub (pv 1) pe_int) (fun _ _ => rfl))))), ?_⟩
  have last : ¬ (m = 2 ∧ leapI y = true) → ∃ p xs i v, V.ref aL = .ref p ∧ V.int (m - 1) = .int i ∧ SqT K H p xs ∧ atI xs i = some v ∧ Q v H := fun c => ⟨aL, _, m - 1, _, rfl, rfl, T.sL H, len_at h1 h2 c, q⟩
  walk_at "ag rd"
  refine of_eqI (fun c => ?_) (fun c => ?_)
  · walk_at "ag rd"
    refine of_bool (fun c2 => ?_) (fun c2 => ?_)
    · have e : mlI y m = 29 := by
        unfold mlI
        rw [if_pos c, if_pos c2]
      rw [e] at q
      exact q
    · walk_at "ag rd"
      exact last (fun z => by rw [z.2] at c2; cases c2)
  · walk_at "ag rd"
    exact last (fun z => c z.1)

/-! ### is_month, is_date -/
abbrev s_is_month : Stmt := topS 10
abbrev N_is_month : List Str := ["year", "month"]
theorem sc_is_month : FnScope N_is_month ["year", "month"] (defScope s_is_month) := ⟨rfl, rfl, rfl, by decide +kernel, rfl, by decide +kernel, by decide +kernel⟩
def isMonthI (y m : Int) : Bool := decide (1900 ≤ y) && decide (y ≤ 2099) && (decide (1 ≤ m) && decide (m ≤ 12))
def sp_is_month : Sp := sII fun y m H Q _ => Q (.bl (isMonthI y m)) H
theorem ok_is_month (T : Txt K mg aL aT aH) (D : Dfn K mg "is_month" s_is_month) : Cal P w K mg base CX0 1 "is_month" sp_is_month := by
  refine cal0 D sc_is_month lII (fun _ _ _ _ _ _ us hl => match us, hl with | [_, _], _ => rfl) fun f cdv A outer s H vs Q E hr h => ?_
  obtain ⟨y, m, rfl, q⟩ := h
  refine ⟨_, (pss_one (ps_ret (pe_and (pe_chain op_le op_le (pe_k T.c_FIRST_YEAR) (pv 0) (pe_k T.c_LAST_YEAR)) (pe_one (pe_chain op_le op_le pe_int (pv 1) (pe_k T.c_MONTHS)))))), ?_⟩
  unfold isMonthI at q
  walk_at "ag rd"
  refine of_decide (fun c => ?_) (fun c => ?_)
  · rw [decide_eq_true c, Bool.true_and] at q
    walk_at "ag rd"
    refine of_decide (fun c2 => ?_) (fun c2 => ?_)
    · rw [decide_eq_true c2, Bool.true_and] at q
      walk_at "ag rd"
      refine of_decide (fun c3 => ?_) (fun c3 => ?_)
      · rw [decide_eq_true c3, Bool.true_and] at q
        exact ⟨_, _, rfl, rfl, q⟩
      · rw [decide_eq_false c3] at q
        exact q
    · rw [decide_eq_false c2] at q
      exact q
  · rw [decide_eq_false c] at q
    exact ⟨_, rfl, iteF q⟩

abbrev s_is_date : Stmt := topS 11
abbrev N_is_date : List Str := ["year", "month", "day"]
theorem sc_is_date : FnScope N_is_date ["year", "month", "day"] (defScope s_is_date) := ⟨rfl, rfl, rfl, by decide +kernel, rfl, by decide +kernel, by decide +kernel⟩
def isDateI (y m d : Int) : Bool := isMonthI y m && (decide (1 ≤ d) && decide (d ≤ mlI y m))
def sp_is_date : Sp := sIII fun y m d H Q _ => Q (.bl (isDateI y m d)) H
theorem ok_is_date (T : Txt K mg aL aT aH) (D : Dfn K mg "is_date" s_is_date) (C_is_month : Cal P w K mg base CX0 1 "is_month" sp_is_month) (C_month_length : Cal P w K mg base CX0 2 "month_length" sp_month_length) : Cal P w K mg base CX0 3 "is_date" sp_is_date := by
  refine cal0 D sc_is_date lIII (fun _ _ _ _ _ _ us hl => match us, hl with | [_, _, _], _ => rfl) fun f cdv A outer s H vs Q E hr h => ?_
  obtain ⟨y, m, d, rfl, q⟩ := h
  refine ⟨_, (pss_one (ps_ret (pe_and (pe_f C_is_month hr (by decide) (pa_cons (pv 0) (pa_cons (pv 1) pa_nil))) (pe_one (pe_chain op_le op_le pe_int (pv 2) (pe_f C_month_length hr (by decide) (pa_cons (pv 0) (pa_cons (pv 1) pa_nil)))))))), ?_⟩
  unfold isDateI at q
  walk_at "ag rd"
  refine of_bool (fun c => ?_) (fun c => ?_)
  · have hm : 1 ≤ m ∧ m ≤ 12 := by
      unfold isMonthI at c
      simp only [Bool.and_eq_true, decide_eq_true_eq] at c
      exact c.2
    rw [c, Bool.true_and] at q
    walk_at "ag rd"
    refine of_decide (fun c3 => ?_) (fun c3 => ?_)
    · rw [decide_eq_true c3, Bool.true_and] at q
      walk_at "ag rd"
      exact ⟨hm.1, hm.2, _, _, rfl, rfl, q⟩
    · rw [decide_eq_false c3] at q
      exact q
  · rw [c] at q
    exact q
end
end Ag

/-! The calendar's defs: years, months, days. -/
namespace Ag
open PySem PySem.Spec PyProof.Rows L2
section
variable {P : Program} {w : World} {K : PySem.W.Frag} {mg : Str → Option Value} {base : Heap} {aL aT aH : Addr}

abbrev s_leap_years_to : Stmt := topS 12
abbrev N_leap_years_to : List Str := ["year"]
theorem sc_leap_years_to : FnScope N_leap_years_to ["year"] (defScope s_leap_years_to) := ⟨rfl, rfl, rfl, by decide +kernel, rfl, by decide +kernel, by decide +kernel⟩
def sp_leap_years_to : Sp := sI fun y H Q _ => Q (.int (leaps y)) H
theorem ok_leap_years_to (T : Txt K mg aL aT aH) (D : Dfn K mg "leap_years_to" s_leap_years_to) : Cal P w K mg base CX0 1 "leap_years_to" sp_leap_years_to := by
  refine cal0 D sc_leap_years_to lI (fun _ _ _ _ _ _ us hl => match us, hl with | [_], _ => rfl) fun f cdv A outer s H vs Q E hr h => ?_
  obtain ⟨y, rfl, q⟩ := h
  refine ⟨_, (pss_one (ps_ret (pe_op op_add (pe_op op_sub (pe_op op_fdiv (pv 0) pe_int) (pe_op op_fdiv (pv 0) pe_int)) (pe_op op_fdiv (pv 0) pe_int)))), ?_⟩
  walk_at "ag rd"
  exact q

abbrev s_days_before_year : Stmt := topS 13
abbrev N_days_before_year : List Str := ["year", "leaps"]
theorem sc_days_before_year : FnScope N_days_before_year ["year"] (defScope s_days_before_year) := ⟨rfl, rfl, rfl, by decide +kernel, rfl, by decide +kernel, by decide +kernel⟩
def sp_days_before_year : Sp := sI fun y H Q _ => Q (.int (byI y)) H
theorem ok_days_before_year (T : Txt K mg aL aT aH) (D : Dfn K mg "days_before_year" s_days_before_year) (C_leap_years_to : Cal P w K mg base CX0 1 "leap_years_to" sp_leap_years_to) : Cal P w K mg base CX0 2 "days_before_year" sp_days_before_year := by
  refine cal0 D sc_days_before_year lI (fun _ _ _ _ _ _ us hl => match us, hl with | [_], _ => rfl) fun f cdv A outer s H vs Q E hr h => ?_
  obtain ⟨y, rfl, q⟩ := h
  refine ⟨_, (pss_cons (ps_set (i := 1) sc_days_before_year.nd rfl (Or.inl rfl) (pe_op op_sub (pe_f C_leap_years_to hr (by decide) (pa_cons (pe_op op_sub (pv 0) pe_int) pa_nil)) (pe_f C_leap_years_to hr (by decide) (pa_cons (pe_op op_sub (pe_k T.c_FIRST_YEAR) pe_int) pa_nil))))
    (pss_one (ps_ret (pe_op op_add (pe_op op_mul pe_int (pe_op op_sub (pv 0) (pe_k T.c_FIRST_YEAR))) (pv 1))))), ?_⟩
  walk_at "ag rd"
  refine ⟨.inl ⟨by decide, by decide⟩, ?_⟩
  walk_at "ag rd"
  exact q

abbrev s_days_before_month : Stmt := topS 14
abbrev N_days_before_month : List Str := ["year", "month", "earlier"]
theorem sc_days_before_month : FnScope N_days_before_month ["year", "month"] (defScope s_days_before_month) := ⟨rfl, rfl, rfl, by decide +kernel, rfl, by decide +kernel, by decide +kernel⟩
theorem sum_bm (y m : Int) : ((List.range (m - 1).toNat).map fun (j : Nat) => mlI y (1 + (j : Int))).sum = sumI y (m - 1).toNat := by
  generalize (m - 1).toNat = n
  induction n with
  | zero => rfl
  | succ n ih =>
    rw [List.range_succ, List.map_append, List.sum_append, ih]
    show sumI y n + (mlI y (1 + (n : Int)) + 0) = sumI y n + mlI y ((n : Int) + 1)
    rw [Int.add_zero, Int.add_comm 1]
def sp_days_before_month : Sp := sII fun y m H Q _ => 1 ≤ m ∧ m ≤ 12 ∧ ∀ H', Same H H' → Q (.int (bmI y m)) H'
theorem ok_days_before_month (T : Txt K mg aL aT aH) (D : Dfn K mg "days_before_month" s_days_before_month) (C_days_before_year : Cal P w K mg base CX0 2 "days_before_year" sp_days_before_year) (C_month_length : Cal P w K mg base CX0 2 "month_length" sp_month_length) : Cal P w K mg base CX0 3 "days_before_month" sp_days_before_month := by
  refine cal0 D sc_days_before_month lII (fun _ _ _ _ _ _ us hl => match us, hl with | [_, _], _ => rfl) fun f cdv A outer s H vs Q E hr h => ?_
  obtain ⟨y, m, rfl, h1, h2, q⟩ := h
  refine ⟨_, (pss_one (ps_ret (pe_op op_add (pe_f C_days_before_year hr (by decide) (pa_cons (pv 0) pa_nil)) (pe_callB (cr_sum rfl) (by rfl) T.fr.n_sum (by decide +kernel) (pa_cons (pe_lc (own := [("earlier", 2)]) (g := gName 2) (tt := tYes) (by rfl) sc_days_before_month.nd (pi_range2 rfl T.fr.n_range (pa_cons pe_int (pa_cons (pv 1) pa_nil))) (blkOk_by (own := [("earlier", 2)]) (N := N_days_before_month) (sc := defScope s_days_before_month) (by decide +kernel)) (fun _ _ _ _ _ => pg_name (i := 2) sc_days_before_month.nd rfl (Or.inl rfl)) (fun _ _ _ _ _ => pts_nil) (fun _ _ _ _ _ => (pe_f C_month_length hr (by decide) (pa_cons (pv 0) (pa_cons (pv 2) pa_nil))))) pa_nil))))), ?_⟩
  walk_at "ag rd"
  refine ⟨⟨by decide, by decide, by omega, by omega⟩, fun Dn hD => ?_⟩
  refine lc_map walk_range (fun j => .int (1 + (j : Int))) (fun j => .int (mlI y (1 + (j : Int)))) rng_Y hD (small _ (by omega)) (fun _ _ => trivial) (fun _ => rfl) (fun j Hj hj sj Qj qj => ?_) (fun H1 s1 e1 => ?_)
  · walk_at "ag rd"
    exact ⟨by omega, by omega, qj Hj (Same.refl _)⟩
  · refine ⟨Dn, (List.range (m - 1).toNat).map fun (j : Nat) => mlI y (1 + (j : Int)), rfl, SqL.of ?_, ?_⟩
    · rw [e1, List.map_map]
      rfl
    · rw [sum_bm]
      exact ⟨_, _, rfl, rfl, q H1 s1⟩

abbrev s_day_of : Stmt := topS 15
abbrev N_day_of : List Str := ["year", "month", "day"]
theorem sc_day_of : FnScope N_day_of ["year", "month", "day"] (defScope s_day_of) := ⟨rfl, rfl, rfl, by decide +kernel, rfl, by decide +kernel, by decide +kernel⟩
def sp_day_of : Sp := sIII fun y m d H Q _ => 1 ≤ m ∧ m ≤ 12 ∧ ∀ H', Same H H' → Q (.int (dayI y m d)) H'
theorem ok_day_of (T : Txt K mg aL aT aH) (D : Dfn K mg "day_of" s_day_of) (C_days_before_month : Cal P w K mg base CX0 3 "days_before_month" sp_days_before_month) : Cal P w K mg base CX0 4 "day_of" sp_day_of := by
  refine cal0 D sc_day_of lIII (fun _ _ _ _ _ _ us hl => match us, hl with | [_, _, _], _ => rfl) fun f cdv A outer s H vs Q E hr h => ?_
  obtain ⟨y, m, d, rfl, h1, h2, q⟩ := h
  refine ⟨_, (pss_one (ps_ret (pe_op op_add (pe_f C_days_before_month hr (by decide) (pa_cons (pv 0) (pa_cons (pv 1) pa_nil))) (pv 2)))), ?_⟩
  walk_at "ag rd"
  refine ⟨h1, h2, fun H1 s1 => ?_⟩
  walk_at "ag rd"
  exact q H1 s1

abbrev s_year_of : Stmt := topS 16
abbrev N_year_of : List Str := ["n", "year"]
theorem sc_year_of : FnScope N_year_of ["n"] (defScope s_year_of) := ⟨rfl, rfl, rfl, by decide +kernel, rfl, by decide +kernel, by decide +kernel⟩
def sp_year_of : Sp := sI fun n H Q _ => 1 ≤ n ∧ ∀ y, 1900 ≤ y → byI y < n → n ≤ byI (y + 1) → Q (.int y) H
theorem ok_year_of (T : Txt K mg aL aT aH) (D : Dfn K mg "year_of" s_year_of) (C_days_before_year : Cal P w K mg base CX0 2 "days_before_year" sp_days_before_year) : Cal P w K mg base CX0 3 "year_of" sp_year_of := by
  refine cal0 D sc_year_of lI (fun _ _ _ _ _ _ us hl => match us, hl with | [_], _ => rfl) fun f cdv A outer s H vs Q E hr h => ?_
  obtain ⟨n, rfl, h1, q⟩ := h
  refine ⟨_, (pss_cons (ps_set (i := 1) sc_year_of.nd rfl (Or.inl rfl) (pe_op op_add (pe_k T.c_FIRST_YEAR) (pe_op op_fdiv (pe_op op_sub (pv 0) pe_int) pe_int)))
    (pss_cons (ps_while PassesOwn.never (pt_cmpR op_lt (pe_f C_days_before_year hr (by decide) (pa_cons (pe_op op_add (pv 1) pe_int) pa_nil)) (pv 0) (nomark _)) (pss_one (ps_aug (i := 1) sc_year_of.nd rfl (Or.inl rfl) pe_int ip_add)))
    (pss_one (ps_ret (pv 1))))), ?_⟩
  walk_at "ag rd"
  refine ⟨fun m σ H' => ∃ y : Int, σ = [some (.int n), some (.int y)] ∧ H' = H ∧ 1900 ≤ y ∧ byI y < n ∧ m = (n - byI (y + 1)).toNat, ⟨_, _, rfl, rfl, by omega, guess_le h1, rfl⟩, fun m σ H' hW => ?_⟩
  obtain ⟨y, rfl, rfl, h2, h3, rfl⟩ := hW
  walk_at "ag rd"
  refine of_decide (fun c => ?_) (fun c => ?_)
  · refine ⟨fun σ H'' => σ = [some (.int n), some (.int (y + 1))] ∧ H'' = H', fun σ H'' hN => ?_, ?_⟩
    · obtain ⟨rfl, rfl⟩ := hN
      have b := by_lt (y + 1)
      exact ⟨_, by omega, _, rfl, rfl, by omega, c, rfl⟩
    · walk_at "ag rd"
      exact rfl
  · walk_at "ag rd"
    exact q y h2 h3 (by omega)

abbrev s_date_of : Stmt := topS 17
abbrev N_date_of : List Str := ["n", "year", "left", "month"]
theorem sc_date_of : FnScope N_date_of ["n"] (defScope s_date_of) := ⟨rfl, rfl, rfl, by decide +kernel, rfl, by decide +kernel, by decide +kernel⟩
def sp_date_of : Sp := sI fun n H Q _ => 1 ≤ n ∧ ∀ y m d H' p, 1900 ≤ y → IsD n y m d → Same H H' → H p = none → H' p = some (.tup [.int y, .int m, .int d]) → Q (.ref p) H'
theorem ok_date_of (T : Txt K mg aL aT aH) (D : Dfn K mg "date_of" s_date_of) (C_year_of : Cal P w K mg base CX0 3 "year_of" sp_year_of) (C_days_before_year : Cal P w K mg base CX0 2 "days_before_year" sp_days_before_year)
    (C_month_length : Cal P w K mg base CX0 2 "month_length" sp_month_length) : Cal P w K mg base CX0 4 "date_of" sp_date_of := by
  refine cal0 D sc_date_of lI (fun _ _ _ _ _ _ us hl => match us, hl with | [_], _ => rfl) fun f cdv A outer s H vs Q E hr h => ?_
  obtain ⟨n, rfl, h1, q⟩ := h
  refine ⟨_, (pss_cons (ps_set (i := 1) sc_date_of.nd rfl (Or.inl rfl) (pe_f C_year_of hr (by decide) (pa_cons (pv 0) pa_nil)))
    (pss_cons (ps_set (i := 2) sc_date_of.nd rfl (Or.inl rfl) (pe_op op_sub (pv 0) (pe_f C_days_before_year hr (by decide) (pa_cons (pv 1) pa_nil))))
    (pss_cons (ps_set (i := 3) sc_date_of.nd rfl (Or.inl rfl) pe_int)
    (pss_cons (ps_while PassesOwn.never (pt_cmpR op_gt (pv 2) (pe_f C_month_length hr (by decide) (pa_cons (pv 1) (pa_cons (pv 3) pa_nil))) (nomark _)) (pss_cons (ps_aug (i := 2) sc_date_of.nd rfl (Or.inl rfl) (pe_f C_month_length hr (by decide) (pa_cons (pv 1) (pa_cons (pv 3) pa_nil))) ip_sub)
    (pss_one (ps_aug (i := 3) sc_date_of.nd rfl (Or.inl rfl) pe_int ip_add))))
    (pss_one (ps_ret (pe_tup (pa_cons (pv 1) (pa_cons (pv 3) (pa_cons (pv 2) pa_nil)))))))))), ?_⟩
  walk_at "ag rd"
  refine ⟨h1, fun y hy g1 g2 => ?_⟩
  walk_at "ag rd"
  refine ⟨fun m σ H' => ∃ mo left : Int, σ = [some (.int n), some (.int y), some (.int left), some (.int mo)] ∧ H' = H ∧ 1 ≤ mo ∧ mo ≤ 12 ∧ 1 ≤ left ∧ n = bmI y mo + left ∧ m = (12 - mo).toNat,
    ⟨_, 1, n - byI y, rfl, rfl, by decide, by decide, by omega, by rw [bm_one]; omega, rfl⟩, fun m σ H' hW => ?_⟩
  obtain ⟨mo, left, rfl, rfl, m1, m2, l1, e, rfl⟩ := hW
  walk_at "ag rd"
  refine ⟨m1, m2, ?_⟩
  walk_at "ag rd"
  refine of_decide (fun c => ?_) (fun c => ?_)
  · have hm : mo ≤ 11 := by
      by_cases z : mo ≤ 11
      · exact z
      · have e12 : mo = 12 := by omega
        subst e12
        have := bm_year y
        omega
    refine ⟨fun σ H'' => σ = [some (.int n), some (.int y), some (.int (left - mlI y mo)), some (.int (mo + 1))] ∧ H'' = H', fun σ H'' hN => ?_, ?_⟩
    · obtain ⟨rfl, rfl⟩ := hN
      have b := bm_succ (y := y) m1
      exact ⟨_, by omega, _, _, rfl, rfl, by omega, by omega, by omega, by omega, rfl⟩
    · walk_at "ag rd"
      refine ⟨m1, m2, ?_⟩
      walk_at "ag rd"
      exact rfl
  · walk_at "ag rd"
    refine ⟨small' _ (by show 3 ≤ 16777216; decide), fun p hp => ?_⟩
    exact q y mo left _ p hy ⟨m1, m2, l1, by omega, e⟩ (same_new hp) hp upd_same

abbrev s_month_on : Stmt := topS 18
abbrev N_month_on : List Str := ["year", "month", "k", "number"]
theorem sc_month_on : FnScope N_month_on ["year", "month", "k"] (defScope s_month_on) := ⟨rfl, rfl, rfl, by decide +kernel, rfl, by decide +kernel, by decide +kernel⟩
def sp_month_on : Sp := sIII fun y m k H Q _ => ∀ H' p, Same H H' → H p = none → H' p = some (.tup [.int ((12 * y + m - 1 + k) / 12), .int ((12 * y + m - 1 + k) % 12 + 1)]) → Q (.ref p) H'
theorem ok_month_on (T : Txt K mg aL aT aH) (D : Dfn K mg "month_on" s_month_on) : Cal P w K mg base CX0 1 "month_on" sp_month_on := by
  refine cal0 D sc_month_on lIII (fun _ _ _ _ _ _ us hl => match us, hl with | [_, _, _], _ => rfl) fun f cdv A outer s H vs Q E hr h => ?_
  obtain ⟨y, m, k, rfl, q⟩ := h
  refine ⟨_, (pss_cons (ps_set (i := 3) sc_month_on.nd rfl (Or.inl rfl) (pe_op op_add (pe_op op_sub (pe_op op_add (pe_op op_mul (pe_k T.c_MONTHS) (pv 0)) (pv 1)) pe_int) (pv 2)))
    (pss_one (ps_ret (pe_tup (pa_cons (pe_op op_fdiv (pv 3) (pe_k T.c_MONTHS)) (pa_cons (pe_op op_add (pe_op op_mod (pv 3) (pe_k T.c_MONTHS)) pe_int) pa_nil)))))), ?_⟩
  walk_at "ag rd"
  refine ⟨.inl ⟨by decide, by decide⟩, ?_⟩
  walk_at "ag rd"
  refine ⟨small' _ (by show 2 ≤ 16777216; decide), fun p hp => ?_⟩
  exact q _ p (same_new hp) hp upd_same

abbrev s_weekday_of : Stmt := topS 19
abbrev N_weekday_of : List Str := ["n"]
theorem sc_weekday_of : FnScope N_weekday_of ["n"] (defScope s_weekday_of) := ⟨rfl, rfl, rfl, by decide +kernel, rfl, by decide +kernel, by decide +kernel⟩
def sp_weekday_of : Sp := sI fun n H Q _ => Q (.int (wdI n)) H
theorem ok_weekday_of (T : Txt K mg aL aT aH) (D : Dfn K mg "weekday_of" s_weekday_of) : Cal P w K mg base CX0 1 "weekday_of" sp_weekday_of := by
  refine cal0 D sc_weekday_of lI (fun _ _ _ _ _ _ us hl => match us, hl with | [_], _ => rfl) fun f cdv A outer s H vs Q E hr h => ?_
  obtain ⟨n, rfl, q⟩ := h
  refine ⟨_, (pss_one (ps_ret (pe_op op_add (pe_op op_mod (pe_op op_sub (pv 0) pe_int) (pe_k T.c_WEEK)) pe_int))), ?_⟩
  walk_at "ag rd"
  exact q

abbrev s_first_weekday : Stmt := topS 20
abbrev N_first_weekday : List Str := ["year", "month", "w", "first"]
theorem sc_first_weekday : FnScope N_first_weekday ["year", "month", "w"] (defScope s_first_weekday) := ⟨rfl, rfl, rfl, by decide +kernel, rfl, by decide +kernel, by decide +kernel⟩
def sp_first_weekday : Sp := sIII fun y m v H Q _ => 1 ≤ m ∧ m ≤ 12 ∧ ∀ H', Same H H' → Q (.int (fwI (dayI y m 1) v)) H'
theorem ok_first_weekday (T : Txt K mg aL aT aH) (D : Dfn K mg "first_weekday" s_first_weekday) (C_day_of : Cal P w K mg base CX0 4 "day_of" sp_day_of) (C_weekday_of : Cal P w K mg base CX0 1 "weekday_of" sp_weekday_of) : Cal P w K mg base CX0 5 "first_weekday" sp_first_weekday := by
  refine cal0 D sc_first_weekday lIII (fun _ _ _ _ _ _ us hl => match us, hl with | [_, _, _], _ => rfl) fun f cdv A outer s H vs Q E hr h => ?_
  obtain ⟨y, m, v, rfl, h1, h2, q⟩ := h
  refine ⟨_, (pss_cons (ps_set (i := 3) sc_first_weekday.nd rfl (Or.inl rfl) (pe_f C_day_of hr (by decide) (pa_cons (pv 0) (pa_cons (pv 1) (pa_cons pe_int pa_nil)))))
    (pss_one (ps_ret (pe_op op_add (pv 3) (pe_op op_mod (pe_op op_sub (pv 2) (pe_f C_weekday_of hr (by decide) (pa_cons (pv 3) pa_nil))) (pe_k T.c_WEEK)))))), ?_⟩
  walk_at "ag rd"
  refine ⟨h1, h2, fun H1 s1 => ?_⟩
  walk_at "ag rd"
  exact q H1 s1

abbrev s_last_weekday : Stmt := topS 21
abbrev N_last_weekday : List Str := ["year", "month", "w", "last"]
theorem sc_last_weekday : FnScope N_last_weekday ["year", "month", "w"] (defScope s_last_weekday) := ⟨rfl, rfl, rfl, by decide +kernel, rfl, by decide +kernel, by decide +kernel⟩
def sp_last_weekday : Sp := sIII fun y m v H Q _ => 1 ≤ m ∧ m ≤ 12 ∧ ∀ H', Same H H' → Q (.int (lwI (dayI y m (mlI y m)) v)) H'
theorem ok_last_weekday (T : Txt K mg aL aT aH) (D : Dfn K mg "last_weekday" s_last_weekday) (C_day_of : Cal P w K mg base CX0 4 "day_of" sp_day_of) (C_weekday_of : Cal P w K mg base CX0 1 "weekday_of" sp_weekday_of)
    (C_month_length : Cal P w K mg base CX0 2 "month_length" sp_month_length) : Cal P w K mg base CX0 5 "last_weekday" sp_last_weekday := by
  refine cal0 D sc_last_weekday lIII (fun _ _ _ _ _ _ us hl => match us, hl with | [_, _, _], _ => rfl) fun f cdv A outer s H vs Q E hr h => ?_
  obtain ⟨y, m, v, rfl, h1, h2, q⟩ := h
  refine ⟨_, (pss_cons (ps_set (i := 3) sc_last_weekday.nd rfl (Or.inl rfl) (pe_f C_day_of hr (by decide) (pa_cons (pv 0) (pa_cons (pv 1) (pa_cons (pe_f C_month_length hr (by decide) (pa_cons (pv 0) (pa_cons (pv 1) pa_nil))) pa_nil)))))
    (pss_one (ps_ret (pe_op op_sub (pv 3) (pe_op op_mod (pe_op op_sub (pe_f C_weekday_of hr (by decide) (pa_cons (pv 3) pa_nil)) (pv 2)) (pe_k T.c_WEEK)))))), ?_⟩
  walk_at "ag rd"
  refine ⟨h1, h2, ?_⟩
  walk_at "ag rd"
  refine ⟨h1, h2, fun H1 s1 => ?_⟩
  walk_at "ag rd"
  exact q H1 s1
end
end Ag

/-! The error Fault(kind, place): made, raised, read (after the skeleton of an own error with a field; here two fields, and Exception.__init__ is called ahead of them). -/
namespace Ag
open PySem L2
abbrev sFI : Stmt := inClass (topS 47) 0
end Ag
namespace PySem
namespace FauX
open PySem.W PySem.Calls PyProof.Rows PySem.HandSPX PySem.ESX L2
/-- what the written part says of Fault, at C, and of its __init__, at fI -/
structure FauTxt (K : Frag) (mg : Str → Option Value) (C fI : Addr) : Prop where
  gC : mg "Fault" = some (.ref C)
  noE : mg "Exception" = none
  cls : ∃ nm q N bs sn sub ab col dd k0 k1 k2 k3 k5, K.lookup C = some (excClassObj nm q C N bs exTail true sn sub ab col dd k0 k1 k2 k3 k5 "Exception.__new__")
  eI : findCls K (.type "Exception") (.type "type") "__init__" = some (.val (.builtin "Exception.__init__"))
  sa : findIn K (.ref C) "__setattr__" = some (some (.builtin "object.__setattr__"))
  ga : findIn K (.ref C) "__getattribute__" = some (some (.builtin "BaseException.__getattribute__"))
  gg : findIn K (.ref C) "__getattr__" = some none
  noK : findIn K (.ref C) "kind" = some none
  noP : findIn K (.ref C) "place" = some none
  iC : findIn K (.ref C) "__init__" = some (some (.ref fI))
  tC : typeIn K (.ref fI) = some (.type "function")
  kC : keepIn K (.ref C) = true
  exC : subIn K (.ref C) (.type "BaseException") = some true
  tyC : typeIn K (.ref C) = some (.type "type")
  hdC : hasDictIn K C = true
  te : exmOne K (.ref C) (.ref C) = some true
  fn : ∃ (oc : Value) (od : Option Addr) (kV doc pm : Value) (an : Option Addr) (cdv ct : Value) (osl : Array (Option Value)),
    K.lookup fI = some ⟨oc, od, .func (fnOf "__init__" "Fault.__init__" (defArgs Ag.sFI) (defBody Ag.sFI) (defScope Ag.sFI) .none kV doc pm an cdv ct), osl⟩ ∧ codeIn K cdv "Fault.__init__" = true
theorem two_size (v u : Value) : [v, u].length ≤ sizeLine := by
  rw [sizeLine_eq]
  exact (by decide : 2 ≤ 16777216)
theorem tail_is (X : String) : exTail.contains (.type X) = exTail.contains (.type X) := rfl
theorem typ_E : typeOf (.type "Exception") = pure (.type "type") := by kernel_rfl
theorem ldN {M : Model} {s : Shared} {name : Str} {scope : Scope} {L a : Addr} {cd : Value} {m : Str → Option Value} {x : Str} {pos : Pos} {v : Value} {Q : Value → Shared → Prop} {A : Around} {E : Value → Shared → Prop} (hn : s.heap.Ns L m) (hv : m x = some v) (h : Q v s)
    (hk : scope.kind = .function := by rfl) (hl : (envOfC name scope L a cd).kindOf x = some .local := by rfl) (hd : (x == ("__debug__" : Str)) = false := by decide) :
    wpAny M A (eval (.Name x pos) (envOfC name scope L a cd)) Q E s := wpAny_Name (wpAny_loadName_local hk hl hn hv h) hd
/-- the two fields -/
def two (v u : Value) : Str → Option Value := fun y => if y = "place" then some u else if y = "kind" then some v else none
/-- what __init__ leaves of a fresh exception at x -/
structure InitEnd (h h' : Heap) (x C dx t1 : Addr) (v u : Value) : Prop where
  keep : ∀ b o, b ≠ x → h.get? b = some o → h'.get? b = some o
  obj : h'.get? x = some { cls := .ref C, dict := some dx, data := .fields #[.ref t1, .none, .none, .none, .bool false, .none] }
  dbig : h.objs.size ≤ dx
  dne : dx ≠ x
  ns : h'.Ns1 dx (two v u)
/-- a made Fault -/
structure OwnMade (h h' : Heap) (e C d : Addr) (v u : Value) : Prop where
  keep : ∀ b o, h.get? b = some o → h'.get? b = some o
  new : h.objs.size ≤ e
  obj : ∃ oe vs, h'.get? e = some oe ∧ oe.cls = .ref C ∧ oe.dict = some d ∧ oe.data = .fields vs ∧ vs[1]? = some .none
  dbig : h.objs.size ≤ d
  dne : d ≠ e
  ns : h'.Ns1 d (two v u)
section
variable {prog : Program} {w : World} {A : Around} {E : Value → Shared → Prop} {R : Result → Shared → Prop} {s : Shared} {K : Frag} {mg mb : Str → Option Value} {C fI : Addr}
theorem fau_init (T : FauTxt K mg C fI) {x t0 : Addr} {v u : Value} (X : K.In s.heap) (hlim : s.heap.NoLimit) (hG : s.heap.Ns mainGlobals mg) (hB : s.heap.Ns builtinsNs mb) (hb : mb "Exception" = some (.type "Exception"))
    (hx : s.heap.get? x = some (excO C t0)) (hnx : K.lookup x = none) (hroom : A.depth < recursionLimit)
    (hq : ∀ h' tk dx t1, InitEnd s.heap h' x C dx t1 v u → R (.ok (.ret .none)) { s with heap := h', toks := tk }) :
    codeAny (model prog w) A (.call (.ref fI) ⟨[.ref x, v, u], []⟩) R s := by
  obtain ⟨oc, od, kV, doc, pm, an, cdv, ct, osl, ho, hcd⟩ := T.fn
  obtain ⟨nm, q, N, bs, sn, sub, ab, col, dd, k0, k1, k2, k3, k5, hC⟩ := T.cls
  have hcl : clsIn K C = some { name := nm, bases := bs, mro := .ref C :: exTail, ns := N, qualname := q, hasDict := true, slotNames := sn, subclasses := sub, abstract := ab, collection := col, hasDel := false } := by unfold clsIn; rw [hC] <;> rfl
  refine Att.call_fn (binds := [("self", .ref x), ("kind", v), ("place", u)]) X hlim ho hcd hroom (BindsTo.of_eq (by first | rfl | with_unfolding_all rfl)) (by first | rfl | decide | with_unfolding_all rfl) (fun s₁ IC => ?_) rfl rfl rfl
  obtain ⟨h₁, tk₁, rfl⟩ := IC.toInCall.same
  have k : ∀ b o, s.heap.get? b = some o → h₁.get? b = some o := IC.toInCall.keep
  have hn := IC.toInCall.ns
  have hxL : s.heap.objs.size ≠ x := Nat.ne_of_gt (Heap.lt_size hx)
  have X₁ : K.In h₁ := X.keeps k
  have hx₁ := k _ _ hx
  have z : s.heap.objs.size < h₁.objs.size := hn.lt
  have fr : Fr s.heap s.heap.objs.size h₁ _ := ⟨hn, k, Nat.le_refl _⟩
  have but : ∀ {ha hb' : Heap}, K.In ha → (∀ b o, b ≠ x → ha.get? b = some o → hb'.get? b = some o) → K.In hb' := fun {ha hb'} Y kk a o e =>
    kk a o (fun q => by rw [q, hnx] at e; cases e) (Y a o e)
  -- Exception.__init__(self)
  show wpAny _ _ (execs _ _) _ _ _
  refine wpAny_execs_cons (wpAny_Expr ?_)
  refine methodCall_KW (Name_function_global rfl rfl (loadGlobal_builtin (hG.keeps k) T.noE (hB.keeps k) hb ?_)) rfl
  refine method_type (s := ⟨h₁, s.gens, s.drawn, _, s.os⟩) fr X typ_E (by decide +kernel) T.eI (by decide +kernel) ?_
  refine callWith_method1 ?_ rfl rfl
  refine Calls.spliced_cons (ldN (v := .ref x) hn (by first | rfl | with_unfolding_all rfl | kernel_rfl) (Calls.spliced_nil ?_))
  refine wpAny_call (init_base F.excBase_Exception tail_is (X₁ _ _ hC) hx₁ (Nat.zero_le _) fun h₂ t₂ k₂ hx₂ => ?_)
  show wpAny _ _ (execs _ _) _ _ _
  -- self.kind = kind
  have hn₂ : h₂.Ns s.heap.objs.size _ := Heap.Ns.at hn fun o e => k₂ _ o hxL e
  have X₂ : K.In h₂ := but X₁ k₂
  have z₂ : s.heap.objs.size < h₂.objs.size := hn₂.lt
  refine wpAny_execs_cons (plainObj_wpAny_Assign_Attribute ?_)
  refine ldN (v := v) hn₂ (by first | rfl | with_unfolding_all rfl | kernel_rfl) (ldN (v := .ref x) hn₂ (by first | rfl | with_unfolding_all rfl | kernel_rfl) ?_)
  refine set_plain X₂ (ox := excO C t₂) (od := none) ⟨hx₂, rfl, rfl, trivial⟩ T.sa ?_
  refine osa_new X₂ hx₂ hcl rfl rfl T.noK (fun h₃ tk₃ dx k₃ dn dne hx₃ hd₃ => ?_)
  show wpAny _ _ (execs _ _) _ _ _
  -- self.place = place
  have hn₃ : h₃.Ns s.heap.objs.size _ := Heap.Ns.at hn₂ fun o e => k₃ _ o hxL e
  have X₃ : K.In h₃ := but X₂ k₃
  have wd : Within (fun y => if y = "kind" then some v else none) ["kind"] := fun y hy => by
    by_cases e : y = "kind"
    · rw [e]; exact List.mem_cons_self ..
    · exact absurd (if_neg e) hy
  obtain ⟨oD, esD, epD, hoD, hdD, _⟩ := hd₃.count wd
  refine wpAny_execs_cons (plainObj_wpAny_Assign_Attribute ?_)
  refine ldN (v := u) hn₃ (by first | rfl | with_unfolding_all rfl | kernel_rfl) (ldN (v := .ref x) hn₃ (by first | rfl | with_unfolding_all rfl | kernel_rfl) ?_)
  refine set_plain X₃ (ox := { cls := .ref C, dict := some dx, data := .fields #[.ref t₂, .none, .none, .none, .bool false, .none] }) (od := some oD) ⟨hx₃, rfl, rfl, hoD⟩ T.sa ?_
  refine ESX.osa_old X₃ hx₃ hd₃ wd (by decide) hcl rfl rfl T.noP (fun h₄ tk₄ k₄ hd₄ => ?_)
  show wpAny _ _ (execs _ _) _ _ _
  refine wpAny_execs_nil (hq h₄ _ dx t₂ ⟨fun b o hb e => ?_, ?_, Nat.le_of_lt (Nat.lt_of_lt_of_le z₂ dn), dne, hd₄⟩)
  · have lb : b < h₂.objs.size := Heap.lt_size (k₂ b o hb (k b o e))
    exact k₄ b o (Nat.ne_of_lt (Nat.lt_of_lt_of_le lb dn)) (k₃ b o hb (k₂ b o hb (k b o e)))
  · exact k₄ x _ (Ne.symm dne) hx₃
theorem fau_made (T : FauTxt K mg C fI) {v u : Value} (X : K.In s.heap) (hlim : s.heap.NoLimit) (hG : s.heap.Ns mainGlobals mg) (hB : s.heap.Ns builtinsNs mb) (hb : mb "Exception" = some (.type "Exception")) (hroom : A.depth + 1 < recursionLimit)
    (hq : ∀ h' tk e d, OwnMade s.heap h' e C d v u → R (.ok (.ret (.ref e))) { s with heap := h', toks := tk }) :
    codeAny (model prog w) A (.call (.ref C) ⟨[v, u], []⟩) R s := by
  obtain ⟨nm, q, N, bs, sn, sub, ab, col, dd, k0, k1, k2, k3, k5, hC⟩ := T.cls
  obtain ⟨hp, g, dr, tk, os⟩ := s
  have k : ∀ b o, hp.get? b = some o → ((hp.push (kdv_tup [v, u])).push (excO C hp.objs.size)).get? b = some o := fun b o e => Heap.get?_push_of_some _ (Heap.get?_push_of_some _ e)
  have hget : ((hp.push (kdv_tup [v, u])).push (excO C hp.objs.size)).get? (hp.objs.size + 1) = some (excO C hp.objs.size) := by heap_get
  have hnx : K.lookup (hp.objs.size + 1) = none := by
    cases e : K.lookup (hp.objs.size + 1) with
    | none => rfl
    | some o =>
      have z : hp.get? (hp.objs.size + 1) = some o := X _ _ e
      exact absurd (Nat.lt_of_succ_lt (Heap.lt_size z)) (Nat.lt_irrefl _)
  refine HandSPX.call_own F.excBase_Exception tail_is (X _ _ hC) (looks_findIn X T.iC) (fun self => bind_fn X self T.tC) (two_size v u) ?_
  refine fau_init (s := ⟨(hp.push (kdv_tup [v, u])).push (excO C hp.objs.size), g, dr, tk, os⟩) T (X.keeps k) (hlim.keeps k) (hG.keeps k) (hB.keeps k) hb hget hnx ?_ fun h' tk' dx t1 ⟨k', hx, dn, dne, hns⟩ => ?_
  · show A.depth + 1 < recursionLimit
    exact hroom
  · have old : ∀ b o, hp.get? b = some o → h'.get? b = some o := fun b o e => k' b o (Nat.ne_of_lt (Nat.lt_succ_of_lt (Heap.lt_size e))) (k b o e)
    have z : hp.objs.size + 1 + 1 ≤ dx := by
      first
        | (simpa only [Heap.size_push] using dn)
        | exact dn
        | (have q := dn; rw [Heap.size_push, Heap.size_push] at q; exact q)
    exact ⟨rfl, hq h' tk' (hp.objs.size + 1) dx ⟨old, Nat.le_succ _, ⟨_, _, hx, rfl, rfl, rfl, rfl⟩, Nat.le_trans (Nat.le_trans (Nat.le_succ _) (Nat.le_succ _)) z, dne, hns⟩⟩
end
end FauX
end PySem
namespace Ag
open PySem PySem.Spec PyProof.Rows L2 PySem.FauX
/-- the fields of a Fault -/
def fdict (k p : Int) : HO := .xd [(("place" : Str), .int p), (("kind" : Str), .int k)]
theorem lk2 (v u : V) (f : Str) : List.lookup f [(("place" : Str), u), (("kind" : Str), v)] = if f = "place" then some u else if f = "kind" then some v else none := by
  by_cases hp : f = "place"
  · subst hp
    rw [if_pos rfl]
    simp [List.lookup]
  · have q : (f == ("place" : Str)) = false := by simpa using hp
    rw [if_neg hp]
    by_cases hk : f = "kind"
    · subst hk
      rw [if_pos rfl]
      simp only [List.lookup, q]
      simp
    · have q2 : (f == ("kind" : Str)) = false := by simpa using hk
      rw [if_neg hk]
      simp only [List.lookup, q, q2]
theorem relO_two {v u : V} {v' u' : Value} (r : RelV v v') (r2 : RelV u u') (f : Str) : RelO (List.lookup f [(("place" : Str), u), (("kind" : Str), v)]) (two v' u' f) := by
  rw [lk2]
  unfold two
  by_cases hp : f = "place"
  · rw [if_pos hp, if_pos hp]
    exact r2
  · rw [if_neg hp, if_neg hp]
    by_cases hk : f = "kind"
    · rw [if_pos hk, if_pos hk]
      exact r
    · rw [if_neg hk, if_neg hk]
      trivial
section
variable {X : Cx} {C fI : Addr}
/-- Fault(k, p) -/
def tMkF (C : Addr) (ta : TA) : L2.St → Hp → XK → Prop := fun σ H Q => ta σ H fun vs H1 => ∃ k p : Int, vs = [.int k, .int p] ∧ ∀ d, H1 d = none → Q (.ref C) (some d) (upd H1 d (fdict k p))
theorem pmk_fau {a : Expr} {es : List Expr} {ta : TA} {p pos : Pos} {k : Nat} (T : FauTxt X.K X.mg C fI) (hr : Room k X.A) (ha : PA X (a :: es) ta) (hg : Gl X "Fault" := by rfl)
    (he : starEach (a :: es) X.env = (false, eval a X.env) :: starEach es X.env := by rfl) (hpl : (backTo pos (starEach es X.env)).any (·.1) = false := by rfl) :
    PMk X (.Call (.Name "Fault" p) (a :: es) [] pos) (tMkF C ta) := by
  intro pins s σ H Q I h
  refine wpAny_Call_Name_kw (ld_glob I hg T.gC ?_)
  refine PySem.W.callWith_K (h₀ := X.base) I.ok.mod.kin T.kC (thn (ha.run pos pins s σ H _ I h) fun us s1 hh => ?_) he hpl
  obtain ⟨vs, H1, I1, r1, kk, pp, ev, q1⟩ := hh
  subst ev
  refine ⟨I1.kIn, ?_⟩
  cases r1 with
  | cons rv rn =>
    rename_i v' us'
    cases rn with
    | cons ru rn =>
    rename_i u' us''
    cases rn
    show wpAny _ _ (call (.ref C) [v', u']) _ _ _
    have hlim := I1.nolimit
    obtain ⟨mb, hB, hbb⟩ := I1.mod.blt
    have hG := I1.mod.glob.keeps I1.bk
    have hB' := hB.keeps I1.bk
    obtain ⟨hp, g, dr, tk, os⟩ := s1
    refine wpAny_call (fau_made T I1.kIn hlim hG hB' ((hbb "Exception" (by decide)).trans (by decide +kernel)) (by have := hr.dp; omega) fun h' tk' e d M => ?_)
    show MkP X pins σ Q (.ref e) ⟨h', g, dr, tk', os⟩
    obtain ⟨oe, fv, hoe, hc, hd, hdat, h1⟩ := M.obj
    have hns := M.ns
    obtain ⟨G', g1, g2⟩ := restrict h' fun b => decide (b ≠ e)
    have gk : ∀ b, b ≠ e → G'.get? b = h'.get? b := fun b hb => g1 b (decide_eq_true hb)
    have ge : G'.get? e = none := g2 e (by simp)
    have old : ∀ b o, hp.get? b = some o → G'.get? b = some o := fun b o q => (gk b (Nat.ne_of_lt (Nat.lt_of_lt_of_le (Heap.lt_size q) M.new))).trans (M.keep b o q)
    have ob : ObjOk X.prog X.w (upd H1 d (fdict kk pp)) G' d (fdict kk pp) :=
      ⟨_, hns.at (fun o q => (gk d M.dne).trans q), fun f => relO_two rv ru f⟩
    have J : Inv X pins σ (upd H1 d (fdict kk pp)) ⟨G', g, dr, tk', os⟩ := I1.laid (t' := tk') old M.dbig ob
    refine ⟨e, oe, fv, ⟨G', g, dr, tk', os⟩, _, .ref C, some d, rfl, J, fun b o q => ?_, ge, hoe, ⟨hc, hd⟩, hdat, h1, ?_, rfl, I1.bare, raises_own T.exC T.tyC, q1 d (I1.hok.fresh M.dbig)⟩
    · by_cases hb : b = e
      · have q' : G'.get? b = some o := q
        rw [hb, ge] at q'; cases q'
      · exact (gk b hb).symm.trans q
    · rw [upd_ne (Ne.symm M.dne)]
      exact I1.hok.fresh M.new
/-- raise Fault(k, p) -/
def tRaiseF (C : Addr) (W : WX) (ta : TA) : TS := fun _ σ H => tMkF C ta σ H fun cls d H' => W cls d σ H'
theorem ps_raiseF {a : Expr} {es : List Expr} {ta : TA} {W : WX} {p pos pos2 : Pos} {k : Nat} (hc : X.calm = true) (T : FauTxt X.K X.mg C fI) (hr : Room k X.A) (tk : Takes X W) (ha : PA X (a :: es) ta) (hg : Gl X "Fault" := by rfl)
    (he : starEach (a :: es) X.env = (false, eval a X.env) :: starEach es X.env := by rfl) (hpl : (backTo pos (starEach es X.env)).any (·.1) = false := by rfl) :
    PS X (.Raise (some (.Call (.Name "Fault" p) (a :: es) [] pos)) none pos2) (tRaiseF C W ta) := ps_raise hc tk (pmk_fau T hr ha hg he hpl)
/-- fault.kind, fault.place: fault the error that the suite holds (at a; its class cls, its dict d) -/
def tFld2 (C : Addr) (a : Addr) (cls : Value) (d : Option Addr) (f : Str) (te : TE) : TE := fun σ H Q => te σ H fun x H1 => x = .ref a ∧ cls = .ref C ∧ ∃ (dd : Addr) (k p : Int), d = some dd ∧ H1 dd = some (fdict k p) ∧ Q (.int (if f = "place" then p else k)) H1
theorem pe_fld2 {a : Addr} {oe : Obj} {cls : Value} {d : Option Addr} {pn : List (Addr × Obj)} {e : Expr} {te : TE} {pos : Pos} {f : Str} (T : FauTxt X.K X.mg C fI) (hz : Zc cls d oe) (hf : ∃ vs, oe.data = .fields vs) (he : PE (X.suite a ((a, oe) :: pn)) e te)
    (hk : f = "place" ∨ f = "kind") (hb : attributeBase e f X.env (eval e X.env) = eval e X.env := by rfl) :
    PE (X.suite a ((a, oe) :: pn)) (.Attribute e f pos) (tFld2 C a cls d f te) := by
  refine ⟨fun pins s σ H Q I h => ?_⟩
  refine attr_of hb (thn (he.run pins s σ H _ I h) fun u s1 hh => ?_)
  obtain ⟨x, H1, I1, rx, ex, ec, dd, k, p, ed, ea, q⟩ := hh
  subst ex
  obtain rfl : u = Value.ref a := rx
  subst ec
  subst ed
  obtain ⟨ha, _⟩ := I1.pin (a, oe) (List.mem_append_left _ List.mem_cons_self)
  obtain ⟨vs, hd⟩ := hf
  have hx : ObjOk X.prog X.w H1 s1.heap dd (fdict k p) := I1.hok dd _ ea
  obtain ⟨mA, hns, hr⟩ := hx
  obtain ⟨od, ho, hl⟩ := lookIn_ns hns
  have l : List.lookup f [(("place" : Str), V.int p), (("kind" : Str), V.int k)] = some (V.int (if f = "place" then p else k)) := by
    rw [lk2]
    rcases hk with rfl | rfl
    · rw [if_pos rfl, if_pos rfl]
    · rw [if_neg (by decide), if_pos rfl, if_neg (by decide)]
  obtain ⟨u, hu, ru⟩ := RelO.some_of (v := V.int (if f = "place" then p else k)) (o := mA f) (by rw [← l]; exact hr f)
  have J : PySem.W.InstAt s1.heap a oe C (some od) := ⟨ha, hz.1, by unfold PySem.W.notCls; rw [hd] <;> rfl, by rw [hz.2]; exact ho⟩
  have no : PySem.W.findIn X.K (.ref C) f = some none := by
    rcases hk with rfl | rfl
    · exact T.noP
    · exact T.noK
  exact HandSPX.exc_get I1.kIn J T.ga T.gg T.exC (PySem.W.findObj_own T.hdC no rfl (by rw [hl, hu])) (handed_of ru) ⟨_, H1, I1.tok _, ru, q⟩
theorem k_place : ("place" : Str) = "place" ∨ ("place" : Str) = "kind" := .inl rfl
theorem k_kind : ("kind" : Str) = "place" ∨ ("kind" : Str) = "kind" := .inr rfl
end
end Ag

/-! Words: digits read and written. -/
namespace Ag
open PySem PySem.Spec PyProof.Rows L2
section
variable {P : Program} {w : World} {K : PySem.W.Frag} {mg : Str → Option Value} {base : Heap} {aL aT aH : Addr}

abbrev s_is_digit : Stmt := topS 48
abbrev N_is_digit : List Str := ["byte"]
theorem sc_is_digit : FnScope N_is_digit ["byte"] (defScope s_is_digit) := ⟨rfl, rfl, rfl, by decide +kernel, rfl, by decide +kernel, by decide +kernel⟩
def sp_is_digit : Sp := sI fun b H Q _ => Q (.bl (digI b)) H
theorem ok_is_digit (T : Txt K mg aL aT aH) (D : Dfn K mg "is_digit" s_is_digit) : Cal P w K mg base CX0 1 "is_digit" sp_is_digit := by
  refine cal0 D sc_is_digit lI (fun _ _ _ _ _ _ us hl => match us, hl with | [_], _ => rfl) fun f cdv A outer s H vs Q E hr h => ?_
  obtain ⟨b, rfl, q⟩ := h
  refine ⟨_, (pss_one (ps_ret (pe_chain op_le op_le (pe_k T.c_ZERO) (pv 0) (pe_k T.c_NINE)))), ?_⟩
  unfold digI at q
  walk_at "ag rd"
  refine of_decide (fun c => ?_) (fun c => ?_)
  · rw [decide_eq_true c, Bool.true_and] at q
    exact ⟨_, _, rfl, rfl, q⟩
  · rw [decide_eq_false c, Bool.false_and] at q
    exact q

abbrev s_number_of : Stmt := topS 49
abbrev N_number_of : List Str := ["digits", "number", "byte"]
theorem sc_number_of : FnScope N_number_of ["digits"] (defScope s_number_of) := ⟨rfl, rfl, rfl, by decide +kernel, rfl, by decide +kernel, by decide +kernel⟩
theorem take_more {α : Type} {l : List α} {i : Nat} {x : α} (h : l[i]? = some x) : l.take (i + 1) = l.take i ++ [x] := by
  rw [List.take_add_one, h]
  rfl
theorem int_at {ns : List Int} {i : Nat} {y : V} (h : (ns.map V.int)[i]? = some y) : ∃ z, ns[i]? = some z ∧ y = V.int z := by
  rw [List.getElem?_map] at h
  cases e : ns[i]? with
  | none => rw [e] at h; cases h
  | some z =>
    rw [e] at h
    exact ⟨z, rfl, (Option.some.inj h).symm⟩
def sp_number_of (K : PySem.W.Frag) : Sp := sR fun a H Q _ => ∃ ds : List Int, SqL K H a (ds.map V.int) ∧ Q (.int (valI ds)) H
theorem ok_number_of (T : Txt K mg aL aT aH) (D : Dfn K mg "number_of" s_number_of) : Cal P w K mg base CX0 1 "number_of" (sp_number_of K) := by
  refine cal0 D sc_number_of lR (fun _ _ _ _ _ _ us hl => match us, hl with | [_], _ => rfl) fun f cdv A outer s H vs Q E hr h => ?_
  obtain ⟨a, rfl, ds, hS, q⟩ := h
  refine ⟨_, (pss_cons (ps_set (i := 1) sc_number_of.nd rfl (Or.inl rfl) pe_int)
    (pss_cons (ps_for PassesOwn.never rfl (pi_list (pv 0)) (pg_name (i := 2) sc_number_of.nd rfl (Or.inl rfl))
    (pss_one (ps_set (i := 1) sc_number_of.nd rfl (Or.inl rfl) (pe_op op_sub (pe_op op_add (pe_op op_mul pe_int (pv 1)) (pv 2)) (pe_k T.c_ZERO)))))
    (pss_one (ps_ret (pv 1))))), ?_⟩
  walk_at "ag rd"
  refine ⟨⟨_, hS⟩, for_list (K := K) (a := a) (xs := ds.map V.int) (fun i σ H' => ∃ v : Option V, σ = [some (.ref a), some (.int (valI (ds.take i))), v] ∧ H' = H) ⟨none, rfl, rfl⟩ (fun i σ H' _ ⟨_, _, e⟩ => by rw [e]; exact hS) ?_ ?_⟩
  · rintro i y σ H' hi ⟨v, rfl, rfl⟩
    obtain ⟨z, hz, rfl⟩ := int_at hi
    have e : valI (ds.take (i + 1)) = 10 * valI (ds.take i) + z - 48 := by
      unfold valI
      rw [take_more hz, List.foldl_append]
      rfl
    walk_at "ag rd"
    refine ⟨.inl ⟨by decide, by decide⟩, ?_⟩
    walk_at "ag rd"
    rw [e]
    exact ⟨some (.int z), rfl, rfl⟩
  · rintro σ H' ⟨v, rfl, rfl⟩
    rw [List.length_map, List.take_length]
    walk_at "ag rd"
    exact q

abbrev s_digits_of : Stmt := topS 50
abbrev N_digits_of : List Str := ["number", "sign"]
theorem sc_digits_of : FnScope N_digits_of ["number"] (defScope s_digits_of) := ⟨rfl, rfl, rfl, by decide +kernel, rfl, by decide +kernel, by decide +kernel⟩
def sp_digits_of : Sp := sI fun i H Q _ => ∃ n : Nat, i = (n : Int) ∧ n ≤ 9999 ∧ ∀ H' p, Same H H' → H p = none → H' p = some (.lst ((decI n).map V.int)) → Q (.ref p) H'
theorem log_small {n : Nat} (h : n ≤ 9999) : ((n : Int)).natAbs.log2 < 1920 := by
  have e : ((n : Int)).natAbs = n := Int.natAbs_natCast n
  rw [e]
  by_cases z : n = 0
  · subst z; decide
  · rw [Nat.log2_lt z]
    exact Nat.lt_of_le_of_lt h (by decide +kernel)
theorem digits_len {n : Nat} (h : n ≤ 9999) : (Nat.toDigits 10 n).length ≤ 4 := (Nat.length_toDigits_le_iff (by decide) (by decide)).mpr (Nat.lt_of_le_of_lt h (by decide))
theorem ok_digits_of (T : Txt K mg aL aT aH) (D : Dfn K mg "digits_of" s_digits_of) : Cal P w K mg base CX0 1 "digits_of" sp_digits_of := by
  refine cal0 D sc_digits_of lI (fun _ _ _ _ _ _ us hl => match us, hl with | [_], _ => rfl) fun f cdv A outer s H vs Q E hr h => ?_
  obtain ⟨i, rfl, n, rfl, hn, q⟩ := h
  refine ⟨_, (pss_one (ps_ret (pe_lc (own := [("sign", 1)]) (g := gName 1) (tt := tYes) (by rfl) sc_digits_of.nd (pi_str (pe_callTy call_str_int (by rfl) T.fr.n_str (by decide +kernel) (pa_cons (pv 0) pa_nil))) (blkOk_by (own := [("sign", 1)]) (N := N_digits_of) (sc := defScope s_digits_of) (by decide +kernel)) (fun _ _ _ _ _ => pg_name (i := 1) sc_digits_of.nd rfl (Or.inl rfl)) (fun _ _ _ _ _ => pts_nil) (fun _ _ _ _ _ => (pe_callB call_ord (by rfl) T.fr.n_ord (by decide +kernel) (pa_cons (pv 1) pa_nil)))))), ?_⟩
  walk_at "ag rd"
  refine ⟨log_small hn, ?_⟩
  refine ⟨_, rfl, fun Dn hD => ?_⟩
  generalize hz : PySem.Str.ofString (toString ((n : Nat) : Int)) = z
  have ez : z.cps.toList = (Nat.toDigits 10 n).map Char.toNat := by rw [← hz]; exact PySem.W.KIN.signs_num n
  have es : z.cps.size ≤ 4 := by
    rw [← Array.length_toList, ez, List.length_map]
    exact digits_len hn
  refine lc_map walk_str (fun j => .str ⟨#[z.cps.getD j 0]⟩) (fun j => .int (z.cps.getD j 0 : Nat)) (fun j Hj x H' hj y => ?_) hD (small _ (by omega)) (fun _ _ => trivial) (fun _ => rfl) (fun j Hj hj sj Qj qj => ?_) (fun H1 s1 e1 => ?_)
  · obtain ⟨e, c, hc, rfl⟩ := y
    refine ⟨e, ?_⟩
    rw [Array.getD_eq_getD_getElem?, hc]
    rfl
  · walk_at "ag rd"
    exact qj Hj (Same.refl _)
  · refine q H1 Dn s1 hD ?_
    rw [e1]
    congr 2
    unfold decI
    rw [List.map_map]
    have e2 : (Nat.toDigits 10 n).map (V.int ∘ fun c => (c.toNat : Int)) = (z.cps.toList).map fun c => V.int (c : Nat) := by
      rw [ez, List.map_map]
      rfl
    rw [e2]
    apply List.ext_getElem
    · rw [List.length_map, List.length_range, List.length_map, Array.length_toList]
    · intro i h1 h2
      rw [List.length_map, List.length_range] at h1
      rw [List.getElem_map, List.getElem_range, List.getElem_map, Array.getElem_toList]
      rw [Array.getD_eq_getD_getElem?, Array.getElem?_eq_getElem h1]
      rfl
end
end Ag

/-! Ages' texts, read. -/
namespace Ag
open PySem PySem.Spec PyProof.Rows L2 PySem.FauX
section
variable {P : Program} {w : World} {K : PySem.W.Frag} {mg : Str → Option Value} {base : Heap} {aL aT aH C fI : Addr}
/-- the fault e is raised -/
def res (C : Addr) (H : Hp) (E : XK) (e : Int × Int) : Prop := ∀ H' d, Same H H' → H' d = some (fdict e.1 e.2) → E (.ref C) (some d) H'
/-- a value, or a fault -/
def out {α : Type} (C : Addr) (H : Hp) (E : XK) (r : Er α) (k : α → Prop) : Prop := match r with
  | .ok v => k v
  | .error e => res C H E e
theorem out_ok {α : Type} {C : Addr} {H : Hp} {E : XK} {r : Er α} {k : α → Prop} {v : α} (h : out C H E r k) (e : r = .ok v) : k v := by
  rw [e] at h
  exact h
theorem out_er {α : Type} {C : Addr} {H : Hp} {E : XK} {r : Er α} {k : α → Prop} {e : Int × Int} (h : out C H E r k) (q : r = .error e) : res C H E e := by
  rw [q] at h
  exact h
theorem res_new {C : Addr} {H : Hp} {E : XK} {e : Int × Int} (h : res C H E e) {H1 : Hp} (s : Same H H1) (d : Addr) (hd : H1 d = none) : E (.ref C) (some d) (upd H1 d (fdict e.1 e.2)) := h _ d (s.new hd) upd_same
theorem res_on {C : Addr} {H H1 : Hp} {E E' : XK} {e : Int × Int} (h : res C H E e) (s : Same H H1) (hE : ∀ d H', E (.ref C) d H' → E' (.ref C) d H') : res C H1 E' e := fun H' d s' q => hE _ _ (h H' d (s.trans s') q)
theorem at_int {ns : List Int} {p : Nat} {b : Int} (h : ns[p]? = some b) : atI (ns.map V.int) (p : Int) = some (.int b) := atI_nat (by rw [List.getElem?_map, h]; rfl)
theorem ml (ns : List Int) : ((ns.map V.int).length : Int) = (ns.length : Int) := by rw [List.length_map]

abbrev s_byte_at : Stmt := topS 58
abbrev N_byte_at : List Str := ["text", "at"]
theorem sc_byte_at : FnScope N_byte_at ["text", "at"] (defScope s_byte_at) := ⟨rfl, rfl, rfl, by decide +kernel, rfl, by decide +kernel, by decide +kernel⟩
def sp_byte_at (K : PySem.W.Frag) (C : Addr) : Sp := sRI fun a i H Q E => ∃ (ns : List Int) (p : Nat), SqL K H a (ns.map V.int) ∧ i = (p : Int) ∧ p ≤ ns.length ∧ out C H E (byteAt ns p) fun b => Q (.int b) H
theorem ok_byte_at (T : Txt K mg aL aT aH) (TF : FauTxt K mg C fI) (D : Dfn K mg "byte_at" s_byte_at) : Cal P w K mg base (L2.CX P w) 2 "byte_at" (sp_byte_at K C) := by
  refine calX D sc_byte_at lRI (fun _ _ _ _ _ _ us hl => match us, hl with | [_, _], _ => rfl) fun f cdv A outer s H vs Q E hr h => ?_
  obtain ⟨a, i, rfl, ns, p, hS, rfl, hp, q⟩ := h
  have tk0 := takes_of (X := cxOf (L2.CX P w) P w K mg base N_byte_at "byte_at" (defScope s_byte_at) f cdv A outer s H E) (E := E) rfl rfl rfl rfl
  refine ⟨_, (pss_cons (ps_if (pt_cmpR op_eq (pv 1) (pe_callB call_len_seq (by rfl) T.fr.n_len (by decide +kernel) (pa_cons (pv 0) pa_nil)) (nomark _)) (pss_one (ps_raiseF rfl TF hr tk0 (pa_cons (pe_k T.c_TOO_SOON) (pa_cons (pv 1) pa_nil)))) pss_nil)
    (pss_one (ps_ret (pe_ix ix_list (pv 0) (pv 1) (fun _ _ => rfl))))), ?_⟩
  walk_at "ag rd"
  refine ⟨_, _, rfl, .inl hS, ?_⟩
  walk_at "ag rd"
  rw [ml]
  refine of_eqI (fun c => ?_) (fun c => ?_)
  · have e : byteAt ns p = .error (1, p) := by
      unfold byteAt
      rw [List.getElem?_eq_none (by omega)]
    walk_at "ag rd"
    exact fun d hd => res_new (out_er q e) (Same.refl H) d hd
  · have hl : p < ns.length := by omega
    have e : byteAt ns p = .ok ns[p] := by
      unfold byteAt
      rw [List.getElem?_eq_getElem hl]
    have q' := out_ok q e
    walk_at "ag rd"
    exact ⟨a, _, _, _, rfl, rfl, hS, at_int (List.getElem?_eq_getElem hl), q'⟩

abbrev s_digits_end : Stmt := topS 59
abbrev N_digits_end : List Str := ["text", "at", "end"]
theorem sc_digits_end : FnScope N_digits_end ["text", "at"] (defScope s_digits_end) := ⟨rfl, rfl, rfl, by decide +kernel, rfl, by decide +kernel, by decide +kernel⟩
theorem run_step {ns : List Int} {p j : Nat} : j < run ns p ↔ (j ≤ run ns p ∧ ∃ b, ns[p + j]? = some b ∧ digI b = true) := by
  constructor
  · intro h
    exact ⟨Nat.le_of_lt h, run_in h⟩
  · rintro ⟨h, b, hb, d⟩
    by_cases e : j = run ns p
    · rw [e] at hb
      rw [run_out hb] at d
      cases d
    · omega
def sp_digits_end (K : PySem.W.Frag) : Sp := sRI fun a i H Q _ => ∃ (ns : List Int) (p : Nat), SqL K H a (ns.map V.int) ∧ i = (p : Int) ∧ p ≤ ns.length ∧ Q (.int ((p + run ns p : Nat) : Int)) H
theorem ok_digits_end (T : Txt K mg aL aT aH) (D : Dfn K mg "digits_end" s_digits_end) (C_is_digit : Cal P w K mg base CX0 1 "is_digit" sp_is_digit) : Cal P w K mg base CX0 2 "digits_end" (sp_digits_end K) := by
  refine cal0 D sc_digits_end lRI (fun _ _ _ _ _ _ us hl => match us, hl with | [_, _], _ => rfl) fun f cdv A outer s H vs Q E hr h => ?_
  obtain ⟨a, i, rfl, ns, p, hS, rfl, hp, q⟩ := h
  refine ⟨_, (pss_cons (ps_set (i := 2) sc_digits_end.nd rfl (Or.inl rfl) (pv 1))
    (pss_cons (ps_while PassesOwn.never (PW.pt (pw_and (pt_cmpR op_lt (pv 2) (pe_callB call_len_seq (by rfl) T.fr.n_len (by decide +kernel) (pa_cons (pv 0) pa_nil)) (nomark _)) (pw_and1 (pt_val (pe_f C_is_digit hr (by decide) (pa_cons (pe_ix ix_list (pv 0) (pv 2) (fun _ _ => rfl)) pa_nil)))))) (pss_one (ps_aug (i := 2) sc_digits_end.nd rfl (Or.inl rfl) pe_int ip_add)))
    (pss_one (ps_ret (pv 2))))), ?_⟩
  walk_at "ag rd"
  refine ⟨fun m σ H' => ∃ j : Nat, σ = [some (.ref a), some (.int p), some (.int ((p + j : Nat) : Int))] ∧ H' = H ∧ j ≤ run ns p ∧ m = run ns p - j, ⟨_, 0, rfl, rfl, Nat.zero_le _, rfl⟩, fun m σ H' hW => ?_⟩
  obtain ⟨j, rfl, rfl, hj, rfl⟩ := hW
  have hle := run_le ns p hp
  have fin : ¬ j < run ns p → Q (.int ((p + j : Nat) : Int)) H' := fun c => by
    have e : j = run ns p := by omega
    rw [e]
    exact q
  walk_at "ag rd"
  refine ⟨_, _, rfl, .inl hS, ?_⟩
  walk_at "ag rd"
  rw [ml]
  refine of_decide (fun c => ?_) (fun c => ?_)
  · have hl : p + j < ns.length := by omega
    walk_at "ag rd"
    refine ⟨a, _, _, _, rfl, rfl, hS, at_int (List.getElem?_eq_getElem hl), ?_⟩
    walk_at "ag rd"
    refine of_bool (fun d => ?_) (fun d => ?_)
    · have hr : j < run ns p := run_step.mpr ⟨hj, _, List.getElem?_eq_getElem hl, d⟩
      refine ⟨fun σ H'' => σ = [some (.ref a), some (.int p), some (.int ((p + (j + 1) : Nat) : Int))] ∧ H'' = H', fun σ H'' hN => ?_, ?_⟩
      · obtain ⟨rfl, rfl⟩ := hN
        exact ⟨_, by omega, j + 1, rfl, rfl, by omega, rfl⟩
      · walk_at "ag rd"
        exact rfl
    · walk_at "ag rd"
      refine fin fun hr => ?_
      obtain ⟨b, hb, db⟩ := run_in hr
      rw [List.getElem?_eq_getElem hl] at hb
      rw [Option.some.inj hb] at d
      rw [db] at d
      cases d
  · walk_at "ag rd"
    refine fin fun hr => ?_
    omega

abbrev s_number_end : Stmt := topS 60
abbrev N_number_end : List Str := ["text", "at", "end"]
theorem sc_number_end : FnScope N_number_end ["text", "at"] (defScope s_number_end) := ⟨rfl, rfl, rfl, by decide +kernel, rfl, by decide +kernel, by decide +kernel⟩
def sp_number_end (K : PySem.W.Frag) (C : Addr) : Sp := sRI fun a i H Q E => ∃ (ns : List Int) (p : Nat), SqL K H a (ns.map V.int) ∧ i = (p : Int) ∧ p ≤ ns.length ∧ out C H E (numEnd ns p) fun e => Q (.int ((e : Nat) : Int)) H
theorem ok_number_end (T : Txt K mg aL aT aH) (TF : FauTxt K mg C fI) (D : Dfn K mg "number_end" s_number_end) (C_byte_at : Cal P w K mg base (L2.CX P w) 2 "byte_at" (sp_byte_at K C)) (C_is_digit : Cal P w K mg base CX0 1 "is_digit" sp_is_digit)
    (C_digits_end : Cal P w K mg base CX0 2 "digits_end" (sp_digits_end K)) : Cal P w K mg base (L2.CX P w) 4 "number_end" (sp_number_end K C) := by
  refine calX D sc_number_end lRI (fun _ _ _ _ _ _ us hl => match us, hl with | [_, _], _ => rfl) fun f cdv A outer s H vs Q E hr h => ?_
  obtain ⟨a, i, rfl, ns, p, hS, rfl, hp, q⟩ := h
  have tk0 := takes_of (X := cxOf (L2.CX P w) P w K mg base N_number_end "number_end" (defScope s_number_end) f cdv A outer s H E) (E := E) rfl rfl rfl rfl
  refine ⟨_, (pss_cons (ps_if (pt_not (pt_val (pe_f C_is_digit hr (by decide) (pa_cons (pe_fX C_byte_at tk0 hr (by decide) (pa_cons (pv 0) (pa_cons (pv 1) pa_nil))) pa_nil)))) (pss_one (ps_raiseF rfl TF hr tk0 (pa_cons (pe_k T.c_WRONG_BYTE) (pa_cons (pv 1) pa_nil)))) pss_nil)
    (pss_cons (ps_set (i := 2) sc_number_end.nd rfl (Or.inl rfl) (pe_f C_digits_end hr (by decide) (pa_cons (pv 0) (pa_cons (pv 1) pa_nil))))
    (pss_cons (ps_if (PW.pt (pw_or (pt_cmpR op_eq (pe_ix ix_list (pv 0) (pv 1) (fun _ _ => rfl)) (pe_k T.c_ZERO) (nomark _)) (pw_or1 (pt_cmpR op_gt (pe_op op_sub (pv 2) (pv 1)) (pe_k T.c_MOST_DIGITS) (nomark _))))) (pss_one (ps_raiseF rfl TF hr tk0 (pa_cons (pe_k T.c_BAD_NUMBER) (pa_cons (pv 1) pa_nil)))) pss_nil)
    (pss_one (ps_ret (pv 2)))))), ?_⟩
  walk_at "ag rd"
  refine ⟨ns, p, hS, rfl, hp, ?_⟩
  by_cases hl : p < ns.length
  · have e0 : byteAt ns p = .ok ns[p] := by
      unfold byteAt
      rw [List.getElem?_eq_getElem hl]
    rw [e0]
    have en : numEnd ns p = if digI ns[p] = false then .error (2, (p : Int)) else if ns[p] = 48 ∨ 4 < run ns p then .error (3, (p : Int)) else .ok (p + run ns p) := by
      unfold numEnd
      rw [List.getElem?_eq_getElem hl]
    show _
    walk_at "ag rd"
    refine of_not (fun d => ?_) (fun d => ?_)
    · rw [if_pos d] at en
      have q' := out_er q en
      walk_at "ag rd"
      exact fun dd hd => res_new q' (Same.refl H) dd hd
    · rw [if_neg (by rw [d]; decide)] at en
      walk_at "ag rd"
      refine ⟨ns, p, hS, rfl, hp, ?_⟩
      walk_at "ag rd"
      refine ⟨a, _, _, _, rfl, rfl, hS, at_int (List.getElem?_eq_getElem hl), ?_⟩
      walk_at "ag rd"
      refine of_eqI (fun c => ?_) (fun c => ?_)
      · rw [if_pos (.inl c)] at en
        have q' := out_er q en
        walk_at "ag rd"
        exact fun dd hd => res_new q' (Same.refl H) dd hd
      · walk_at "ag rd"
        refine of_decide (fun c2 => ?_) (fun c2 => ?_)
        · rw [if_pos (.inr (by omega))] at en
          have q' := out_er q en
          walk_at "ag rd"
          exact fun dd hd => res_new q' (Same.refl H) dd hd
        · rw [if_neg (by omega)] at en
          have q' := out_ok q en
          walk_at "ag rd"
          exact q'
  · have e0 : byteAt ns p = .error (1, p) := by
      unfold byteAt
      rw [List.getElem?_eq_none (by omega)]
    have en : numEnd ns p = .error (1, p) := by
      unfold numEnd
      rw [List.getElem?_eq_none (by omega)]
    rw [e0]
    exact out_er q en
end
end Ag

/-! t.index(x) of a tuple of flat items. -/
namespace Ag
open PySem PySem.Spec PyProof.Rows L2
/-- the first place of what equals it -/
def rIdxT (K : PySem.W.Frag) : V → List V → Hp → VK → Prop := fun x xs H Q => ∃ (p : Addr) (ys : List V) (y : V) (j : Nat) (z : V), x = .ref p ∧ xs = [y] ∧ SqT K H p ys ∧ (flatV y = true ∧ ys.all flatV = true) ∧
  (ys[j]? = some z ∧ eqV z y = true ∧ ∀ (m : Nat) (z' : V), m < j → ys[m]? = some z' → eqV z' y = false) ∧ Q (.int (j : Nat)) H
theorem mt_tup_indexI {X : Cx} : MtR X "tuple.index" (rIdxT X.K) := by
  intro pins s σ H x xs v us Q I rx rxs h
  obtain ⟨p, ys, y, j, z, rfl, rfl, hq, ⟨fy, fys⟩, ⟨hz, he, hno⟩, q⟩ := h
  cases rx
  cases rxs with
  | cons ry rt =>
    rename_i uy ut
    cases rt
    obtain ⟨its, rv, tp, hsz⟩ := I.tuple hq
    obtain ⟨⟨cls, dd, dat, sl⟩, ho, hc, n, hd⟩ := tp
    simp only at hc hd
    subst hc hd
    have hlen : ys.length = its.length := rv.length
    have item : ∀ (m : Nat) (w0 : V), ys[m]? = some w0 → ∃ (hm : m < its.toArray.size), eqU y (its.toArray[m]'hm) = eqV w0 y := fun m w0 hw => by
      obtain ⟨u0, hu0, ru0⟩ := rv.get hw
      obtain ⟨hm, hme⟩ := List.getElem?_eq_some_iff.mp hu0
      have hm' : m < its.toArray.size := by rw [List.size_toArray]; exact hm
      refine ⟨hm', ?_⟩
      have e1 : its.toArray[m]'hm' = u0 := by rw [List.getElem_toArray]; exact hme
      rw [e1]
      exact eqU_of ru0 (flat_at fys hw)
    obtain ⟨hj, hje⟩ := item j z hz
    refine call_meets PySem.F.slot_tuple_index ⟨_, ho, rfl⟩ PySem.F.entry_tuple_index (PySem.F.args_tuple_index_2 _ _)
      (TI.tuple_indexAt p its.toArray n dd sl uy (eqU y) j hj (hje.trans he) fun m hm hmj => ?_)
      ⟨ho, fun u0 hu0 => mem_eqAt ry fy rv fys u0 (List.mem_toArray.mp hu0), ⟨.int (j : Nat), H, I.tok _, ⟨_, rfl⟩, q⟩⟩
    have hmy : m < ys.length := by rw [hlen, ← List.size_toArray]; exact hm
    obtain ⟨_, e2⟩ := item m _ (List.getElem?_eq_getElem hmy)
    exact e2.trans (hno m _ hmj (List.getElem?_eq_getElem hmy))
end Ag

/-! Ages' texts, read: units, the whole. -/
namespace Ag
open PySem PySem.Spec PyProof.Rows L2 PySem.FauX
section
variable {P : Program} {w : World} {K : PySem.W.Frag} {mg : Str → Option Value} {base : Heap} {aL aT aH C fI : Addr}

abbrev s_unit_at : Stmt := topS 61
abbrev N_unit_at : List Str := ["text", "at", "before", "letter", "unit"]
theorem sc_unit_at : FnScope N_unit_at ["text", "at", "before"] (defScope s_unit_at) := ⟨rfl, rfl, rfl, by decide +kernel, rfl, by decide +kernel, by decide +kernel⟩
abbrev lets : List V := [121, 109, 119, 100].map V.int
theorem flat_lets : lets.all flatV = true := rfl
theorem lets_in (b : Int) : inV (.int b) lets = (unitIx b).isSome := by
  unfold unitIx
  by_cases h1 : b = 121
  · subst h1; rfl
  by_cases h2 : b = 109
  · subst h2; rfl
  by_cases h3 : b = 119
  · subst h3; rfl
  by_cases h4 : b = 100
  · subst h4; rfl
  rw [if_neg h1, if_neg h2, if_neg h3, if_neg h4]
  show (eqV (.int 121) (.int b) || (eqV (.int 109) (.int b) || (eqV (.int 119) (.int b) || (eqV (.int 100) (.int b) || false)))) = false
  simp [eqV, Ne.symm h1, Ne.symm h2, Ne.symm h3, Ne.symm h4]
theorem lets_at {b : Int} {u : Nat} (h : unitIx b = some u) : lets[u]? = some (.int b) ∧ eqV (.int b) (.int b) = true ∧ ∀ (m : Nat) (z' : V), m < u → lets[m]? = some z' → eqV z' (.int b) = false := by
  unfold unitIx at h
  by_cases h1 : b = 121
  · subst h1
    obtain rfl : 0 = u := Option.some.inj h
    exact ⟨rfl, rfl, fun m z' hm => absurd hm (Nat.not_lt_zero _)⟩
  by_cases h2 : b = 109
  · subst h2
    obtain rfl : 1 = u := Option.some.inj h
    refine ⟨rfl, rfl, fun m z' hm hz => ?_⟩
    obtain rfl : m = 0 := by omega
    rw [← Option.some.inj hz]
    rfl
  by_cases h3 : b = 119
  · subst h3
    obtain rfl : 2 = u := Option.some.inj h
    refine ⟨rfl, rfl, fun m z' hm hz => ?_⟩
    have : m = 0 ∨ m = 1 := by omega
    rcases this with rfl | rfl <;> (rw [← Option.some.inj hz]; rfl)
  by_cases h4 : b = 100
  · subst h4
    obtain rfl : 3 = u := Option.some.inj h
    refine ⟨rfl, rfl, fun m z' hm hz => ?_⟩
    have : m = 0 ∨ m = 1 ∨ m = 2 := by omega
    rcases this with rfl | rfl | rfl <;> (rw [← Option.some.inj hz]; rfl)
  rw [if_neg h1, if_neg h2, if_neg h3, if_neg h4] at h
  cases h
theorem byteAt_ok {ns : List Int} {p : Nat} {b : Int} (h : ns[p]? = some b) : byteAt ns p = .ok b := by
  unfold byteAt
  rw [h]
theorem byteAt_er {ns : List Int} {p : Nat} (h : ns[p]? = none) : byteAt ns p = .error (1, p) := by
  unfold byteAt
  rw [h]
def sp_unit_at (K : PySem.W.Frag) (C : Addr) : Sp := sRII fun a i b H Q E => ∃ (ns : List Int) (p : Nat), SqL K H a (ns.map V.int) ∧ i = (p : Int) ∧ p ≤ ns.length ∧ out C H E (unitAt ns p b) fun u => Q (.int (u : Nat)) H
theorem ok_unit_at (T : Txt K mg aL aT aH) (TF : FauTxt K mg C fI) (D : Dfn K mg "unit_at" s_unit_at) (C_byte_at : Cal P w K mg base (L2.CX P w) 2 "byte_at" (sp_byte_at K C)) : Cal P w K mg base (L2.CX P w) 4 "unit_at" (sp_unit_at K C) := by
  refine calX D sc_unit_at lRII (fun _ _ _ _ _ _ us hl => match us, hl with | [_, _, _], _ => rfl) fun f cdv A outer s H vs Q E hr h => ?_
  obtain ⟨a, i, b, rfl, ns, p, hS, rfl, hp, q⟩ := h
  have tk0 := takes_of (X := cxOf (L2.CX P w) P w K mg base N_unit_at "unit_at" (defScope s_unit_at) f cdv A outer s H E) (E := E) rfl rfl rfl rfl
  refine ⟨_, (pss_cons (ps_set (i := 3) sc_unit_at.nd rfl (Or.inl rfl) (pe_fX C_byte_at tk0 hr (by decide) (pa_cons (pv 0) (pa_cons (pv 1) pa_nil))))
    (pss_cons (ps_if (pt_cmpR op_notIn_seq (pv 3) (pe_r T.gT) (by rfl)) (pss_one (ps_raiseF rfl TF hr tk0 (pa_cons (pe_k T.c_WRONG_BYTE) (pa_cons (pv 1) pa_nil)))) pss_nil)
    (pss_cons (ps_set (i := 4) sc_unit_at.nd rfl (Or.inl rfl) (pe_bm PySem.F.plainAttrs_tuple PySem.F.slot_tuple_index PySem.F.type_tuple_index mt_tup_indexI (pe_r T.gT) (pa_cons (pv 3) pa_nil)))
    (pss_cons (ps_if (pt_cmpR op_le (pv 4) (pv 2) (nomark _)) (pss_one (ps_raiseF rfl TF hr tk0 (pa_cons (pe_k T.c_WRONG_ORDER) (pa_cons (pv 1) pa_nil)))) pss_nil)
    (pss_one (ps_ret (pv 4))))))), ?_⟩
  walk_at "ag rd"
  refine ⟨ns, p, hS, rfl, hp, ?_⟩
  cases hl : ns[p]? with
  | none =>
    have en : unitAt ns p b = .error (1, p) := by
      unfold unitAt
      rw [hl]
    rw [byteAt_er hl]
    exact out_er q en
  | some c =>
    rw [byteAt_ok hl]
    show _
    walk_at "ag rd"
    refine ⟨aT, lets, rfl, .inr (T.sT H), rfl, flat_lets, ?_⟩
    walk_at "ag rd"
    show (if (!inV (.int c) lets) = true then _ else _)
    rw [lets_in]
    cases hu : unitIx c with
    | none =>
      have en : unitAt ns p b = .error (2, p) := by
        unfold unitAt
        rw [hl]
        dsimp only
        rw [hu]
      have q' := out_er q en
      walk_at "ag rd"
      exact fun dd hd => res_new q' (Same.refl H) dd hd
    | some u =>
      have en : unitAt ns p b = if (u : Int) ≤ b then .error (4, (p : Int)) else .ok u := by
        unfold unitAt
        rw [hl]
        dsimp only
        rw [hu]
      refine ⟨.inr (.inl ⟨rfl, T.kT⟩), ?_⟩
      walk_at "ag rd"
      refine ⟨aT, lets, .int c, u, .int c, rfl, rfl, T.sT H, ⟨rfl, flat_lets⟩, lets_at hu, ?_⟩
      walk_at "ag rd"
      refine of_decide (fun z => ?_) (fun z => ?_)
      · rw [if_pos z] at en
        have q' := out_er q en
        walk_at "ag rd"
        exact fun dd hd => res_new q' (Same.refl H) dd hd
      · rw [if_neg z] at en
        have q' := out_ok q en
        walk_at "ag rd"
        exact q'

abbrev s_read_nothing : Stmt := topS 62
abbrev N_read_nothing : List Str := ["text"]
theorem sc_read_nothing : FnScope N_read_nothing ["text"] (defScope s_read_nothing) := ⟨rfl, rfl, rfl, by decide +kernel, rfl, by decide +kernel, by decide +kernel⟩
def sp_read_nothing (K : PySem.W.Frag) (C : Addr) : Sp := sR fun a H Q E => ∃ ns : List Int, SqL K H a (ns.map V.int) ∧ 1 ≤ ns.length ∧ out C H E (nothingI ns) fun l => ∀ H' p, Same H H' → H p = none → H' p = some (.lst (l.map V.int)) → Q (.ref p) H'
theorem ok_read_nothing (T : Txt K mg aL aT aH) (TF : FauTxt K mg C fI) (D : Dfn K mg "read_nothing" s_read_nothing) (C_byte_at : Cal P w K mg base (L2.CX P w) 2 "byte_at" (sp_byte_at K C)) : Cal P w K mg base (L2.CX P w) 4 "read_nothing" (sp_read_nothing K C) := by
  refine calX D sc_read_nothing lR (fun _ _ _ _ _ _ us hl => match us, hl with | [_], _ => rfl) fun f cdv A outer s H vs Q E hr h => ?_
  obtain ⟨a, rfl, ns, hS, hp, q⟩ := h
  have tk0 := takes_of (X := cxOf (L2.CX P w) P w K mg base N_read_nothing "read_nothing" (defScope s_read_nothing) f cdv A outer s H E) (E := E) rfl rfl rfl rfl
  refine ⟨_, (pss_cons (ps_if (pt_cmpR op_ne (pe_fX C_byte_at tk0 hr (by decide) (pa_cons (pv 0) (pa_cons pe_int pa_nil))) (pe_k T.c_LETTER_OF_DAYS) (nomark _)) (pss_one (ps_raiseF rfl TF hr tk0 (pa_cons (pe_k T.c_BAD_NUMBER) (pa_cons pe_int pa_nil)))) pss_nil)
    (pss_cons (ps_if (pt_cmpR op_gt (pe_callB call_len_seq (by rfl) T.fr.n_len (by decide +kernel) (pa_cons (pv 0) pa_nil)) pe_int (nomark _)) (pss_one (ps_raiseF rfl TF hr tk0 (pa_cons (pe_k T.c_WRONG_BYTE) (pa_cons pe_int pa_nil)))) pss_nil)
    (pss_one (ps_ret (pe_lst (pa_cons pe_int (pa_cons pe_int (pa_cons pe_int (pa_cons pe_int (pa_cons pe_int pa_nil)))))))))), ?_⟩
  walk_at "ag rd"
  refine ⟨ns, 1, hS, rfl, hp, ?_⟩
  cases hl : ns[1]? with
  | none =>
    have en : nothingI ns = .error (1, 1) := by
      unfold nothingI
      rw [hl]
    rw [byteAt_er hl]
    exact out_er q en
  | some c =>
    have en : nothingI ns = if c ≠ 100 then .error (3, 0) else if 2 < ns.length then .error (2, 2) else .ok [0, 0, 0, 0, 0] := by
      unfold nothingI
      rw [hl]
    rw [byteAt_ok hl]
    show _
    walk_at "ag rd"
    refine of_neI (fun z => ?_) (fun z => ?_)
    · rw [if_pos z] at en
      have q' := out_er q en
      walk_at "ag rd"
      exact fun dd hd => res_new q' (Same.refl H) dd hd
    · rw [if_neg (fun y => y z)] at en
      walk_at "ag rd"
      refine ⟨_, _, rfl, .inl hS, ?_⟩
      walk_at "ag rd"
      rw [ml]
      refine of_decide (fun y => ?_) (fun y => ?_)
      · rw [if_pos (by omega)] at en
        have q' := out_er q en
        walk_at "ag rd"
        exact fun dd hd => res_new q' (Same.refl H) dd hd
      · rw [if_neg (by omega)] at en
        have q' := out_ok q en
        walk_at "ag rd"
        refine ⟨small' _ (by show 5 ≤ 16777216; decide), fun p hp => ?_⟩
        exact q' _ p (same_new hp) hp upd_same

abbrev s_read_units : Stmt := topS 63
abbrev N_read_units : List Str := ["text", "units", "unit", "at", "more", "end"]
theorem sc_read_units : FnScope N_read_units ["text"] (defScope s_read_units) := ⟨rfl, rfl, rfl, by decide +kernel, rfl, by decide +kernel, by decide +kernel⟩
theorem cut_slice {ns : List Int} {p e : Nat} (h1 : p ≤ e) (h2 : e ≤ ns.length) : cutV (ns.map V.int) (some (p : Int)) (some (e : Int)) = (slice ns p e).map V.int := by
  unfold cutV slice
  rw [HT.sIx_nat, HT.sIx_nat, List.length_map, Nat.min_eq_left h2, Nat.min_eq_left (show p ≤ ns.length by omega), List.map_take, List.map_drop]
def sp_read_units (K : PySem.W.Frag) (C : Addr) : Sp := sR fun a H Q E => ∃ ns : List Int, SqL K H a (ns.map V.int) ∧ ns.length ≤ 200 ∧ out C H E (unitsI ns (ns.length + 1) [0, 0, 0, 0] (-1) 0) fun r => ∀ H' p t, Same H H' → H p = none → H' p = some (.lst (r.1.map V.int)) → H' t = some (.tup [.ref p, .int (r.2 : Nat)]) → Q (.ref t) H'
/-- the loop's state: the units so far at l; while there's more, what is to come makes R -/
def WU (ns : List Int) (a l : Addr) (H : Hp) (R : Er (List Int × Nat)) (m : Nat) (σ : L2.St) (H' : Hp) : Prop := ∃ (us : List Int) (u : Int) (p : Nat) (b : Bool) (x : Option V),
  σ = [some (.ref a), some (.ref l), some (.int u), some (.int (p : Nat)), some (.bl b), x] ∧ Same H H' ∧ H' l = some (.lst (us.map V.int)) ∧ us.length = 4 ∧ p ≤ ns.length ∧
  ((b = true ∧ ns.length + 1 ≤ p + m ∧ unitsI ns m us u p = R) ∨ (b = false ∧ m = 0 ∧ R = .ok (us, p)))
theorem WU_go {ns : List Int} {a l : Addr} {H H' : Hp} {R : Er (List Int × Nat)} {m : Nat} {us : List Int} {u : Int} {p : Nat} {x : Option V} (s : Same H H') (hl : H' l = some (.lst (us.map V.int))) (h4 : us.length = 4) (hp : p ≤ ns.length) (hm : ns.length + 1 ≤ p + m) (e : unitsI ns m us u p = R) :
    WU ns a l H R m [some (.ref a), some (.ref l), some (.int u), some (.int (p : Nat)), some (.bl true), x] H' := ⟨us, u, p, true, x, rfl, s, hl, h4, hp, .inl ⟨rfl, hm, e⟩⟩
theorem WU_stop {ns : List Int} {a l : Addr} {H H' : Hp} {R : Er (List Int × Nat)} {us : List Int} {u : Int} {p : Nat} {x : Option V} (s : Same H H') (hl : H' l = some (.lst (us.map V.int))) (h4 : us.length = 4) (hp : p ≤ ns.length) (e : R = .ok (us, p)) :
    WU ns a l H R 0 [some (.ref a), some (.ref l), some (.int u), some (.int (p : Nat)), some (.bl false), x] H' := ⟨us, u, p, false, x, rfl, s, hl, h4, hp, .inr ⟨rfl, rfl, e⟩⟩
theorem ok_read_units (T : Txt K mg aL aT aH) (TF : FauTxt K mg C fI) (D : Dfn K mg "read_units" s_read_units) (C_number_end : Cal P w K mg base (L2.CX P w) 4 "number_end" (sp_number_end K C)) (C_unit_at : Cal P w K mg base (L2.CX P w) 4 "unit_at" (sp_unit_at K C))
    (C_number_of : Cal P w K mg base CX0 1 "number_of" (sp_number_of K)) : Cal P w K mg base (L2.CX P w) 5 "read_units" (sp_read_units K C) := by
  refine calX D sc_read_units lR (fun _ _ _ _ _ _ us hl => match us, hl with | [_], _ => rfl) fun f cdv A outer s H vs Q E hr h => ?_
  obtain ⟨a, rfl, ns, hS, hp, q⟩ := h
  have tk0 := takes_of (X := cxOf (L2.CX P w) P w K mg base N_read_units "read_units" (defScope s_read_units) f cdv A outer s H E) (E := E) rfl rfl rfl rfl
  refine ⟨_, (pss_cons (ps_set (i := 1) sc_read_units.nd rfl (Or.inl rfl) (pe_lst (pa_cons pe_int (pa_cons pe_int (pa_cons pe_int (pa_cons pe_int pa_nil))))))
    (pss_cons (ps_set (i := 2) sc_read_units.nd rfl (Or.inl rfl) (pe_un un_neg pe_int))
    (pss_cons (ps_set (i := 3) sc_read_units.nd rfl (Or.inl rfl) pe_int)
    (pss_cons (ps_set (i := 4) sc_read_units.nd rfl (Or.inl rfl) pe_bl)
    (pss_cons (ps_while (passes_of rfl) (pt_val (pv 4)) (pss_cons (ps_set (i := 5) sc_read_units.nd rfl (Or.inl rfl) (pe_fX C_number_end tk0 hr (by decide) (pa_cons (pv 0) (pa_cons (pv 3) pa_nil))))
    (pss_cons (ps_set (i := 2) sc_read_units.nd rfl (Or.inl rfl) (pe_fX C_unit_at tk0 hr (by decide) (pa_cons (pv 0) (pa_cons (pv 5) (pa_cons (pv 2) pa_nil)))))
    (pss_cons (ps_asg (pe_f C_number_of hr (by decide) (pa_cons (pe_slice sl_list (pv 0) (po_some (pv 3)) (po_some (pv 5))) pa_nil)) (pg_sub (pv 1) (pv 2) set_list))
    (pss_cons (ps_set (i := 3) sc_read_units.nd rfl (Or.inl rfl) (pe_op op_add (pv 5) pe_int))
    (pss_cons (ps_set (i := 4) sc_read_units.nd rfl (Or.inl rfl) (pe_and (pe_cmpR op_ne (pv 2) (pe_k T.c_DAYS) (nomark _)) (pe_and (pe_cmpR op_lt (pv 3) (pe_callB call_len_seq (by rfl) T.fr.n_len (by decide +kernel) (pa_cons (pv 0) pa_nil)) (nomark _)) (pe_one (pe_cmpR op_eq (pe_ix ix_list (pv 0) (pv 3) (fun _ _ => rfl)) (pe_k T.c_PLUS) (nomark _))))))
    (pss_one (ps_if (pt_val (pv 4)) (pss_one (ps_aug (i := 3) sc_read_units.nd rfl (Or.inl rfl) pe_int ip_add)) pss_nil))))))))
    (pss_one (ps_ret (pe_tup (pa_cons (pv 1) (pa_cons (pv 3) pa_nil)))))))))), ?_⟩
  walk_at "ag rd"
  refine ⟨small' _ (by show 4 ≤ 16777216; decide), fun l hl => ?_⟩
  walk_at "ag rd"
  generalize hR : unitsI ns (ns.length + 1) [0, 0, 0, 0] (-1) 0 = R at q
  refine ⟨WU ns a l H R, ⟨ns.length + 1, WU_go (us := [0, 0, 0, 0]) (p := 0) (same_new hl) upd_same rfl (Nat.zero_le _) (by omega) hR⟩, fun m σ H' hW => ?_⟩
  obtain ⟨us, u, p, b, x, rfl, sm, el, h4, hpn, ⟨rfl, hm, e⟩ | ⟨rfl, rfl, e⟩⟩ := hW
  · -- a turn
    have hS' : SqL K H' a (ns.map V.int) := sm.seq hS
    walk_at "ag rd"
    refine ⟨fun σ' H1 => ∃ m', m' < m ∧ WU ns a l H R m' σ' H1, fun _ _ z => z, ?_⟩
    obtain ⟨m, rfl⟩ : ∃ k, m = k + 1 := ⟨m - 1, by omega⟩
    unfold unitsI at e
    walk_at "ag rd"
    refine ⟨ns, p, hS', rfl, hpn, ?_⟩
    cases hn : numEnd ns p with
    | error er =>
      rw [hn] at e
      exact res_on (out_er q e.symm) sm fun _ _ z => z
    | ok en =>
      rw [hn] at e
      dsimp only at e
      obtain ⟨l1, l2, l3⟩ := numEnd_le hn
      show _
      walk_at "ag rd"
      refine ⟨ns, en, hS', rfl, l2, ?_⟩
      cases hu : unitAt ns en u with
      | error er =>
        rw [hu] at e
        exact res_on (out_er q e.symm) sm fun _ _ z => z
      | ok v =>
        rw [hu] at e
        dsimp only at e
        obtain ⟨v1, v2, v3⟩ := unitAt_lt hu
        show _
        walk_at "ag rd"
        refine ⟨a, _, rfl, hS', fun s hs => ?_⟩
        have nsl : l ≠ s := ne_of_none el hs
        walk_at "ag rd"
        refine ⟨slice ns p en, SqL.of ?_, ?_⟩
        · rw [upd_same, cut_slice (Nat.le_of_lt l1) l2]
        walk_at "ag rd"
        have ix : ixN (us.map V.int).length (v : Int) = some v := by
          unfold ixN
          rw [List.length_map, h4, if_pos (by omega), if_pos (by omega)]
          rfl
        refine ⟨l, _, _, v, rfl, rfl, ?_, ix, ?_⟩
        · rw [upd_ne nsl]
          exact el
        have hS2 : ∀ o, SqL K (upd (upd H' s o) l (.lst ((us.map V.int).set v (.int (valI (slice ns p en)))))) a (ns.map V.int) := fun o => ((sm.new hs).chg hl).seq hS
        have s2 : ∀ o, Same H (upd (upd H' s o) l (.lst ((us.map V.int).set v (.int (valI (slice ns p en)))))) := fun o => (sm.new hs).chg hl
        have es : (us.map V.int).set v (.int (valI (slice ns p en))) = (us.set v (valI (slice ns p en))).map V.int := by rw [List.map_set]
        have h4' : (us.set v (valI (slice ns p en))).length = 4 := by rw [List.length_set]; exact h4
        have e1 : (en : Int) + 1 = ((en + 1 : Nat) : Int) := by omega
        -- no more: behind the loop
        have stop : ∀ o, ¬ (v ≠ 3 ∧ ns[en + 1]? = some 43) → WU ns a l H R 0 [some (.ref a), some (.ref l), some (.int (v : Nat)), some (.int ((en : Int) + 1)), some (.bl false), some (.int (en : Nat))] (upd (upd H' s o) l (.lst ((us.map V.int).set v (.int (valI (slice ns p en)))))) := fun o c => by
          rw [if_neg c] at e
          rw [e1]
          refine WU_stop (s2 o) ?_ h4' (by omega) e.symm
          rw [upd_same, es]
        walk_at "ag rd"
        refine of_neI (fun c => ?_) (fun c => ?_)
        · have c' : v ≠ 3 := by omega
          walk_at "ag rd"
          refine ⟨_, _, rfl, .inl (hS2 _), ?_⟩
          walk_at "ag rd"
          rw [ml]
          refine of_decide (fun d => ?_) (fun d => ?_)
          · have hl2 : en + 1 < ns.length := by omega
            walk_at "ag rd"
            refine ⟨a, _, _, _, rfl, rfl, hS2 _, by rw [e1]; exact at_int (List.getElem?_eq_getElem hl2), ?_⟩
            walk_at "ag rd"
            refine of_eqI (fun z => ?_) (fun z => ?_)
            · have g : v ≠ 3 ∧ ns[en + 1]? = some 43 := ⟨c', by rw [List.getElem?_eq_getElem hl2, z]⟩
              rw [if_pos g] at e
              rw [z]
              walk_at "ag rd"
              have go := WU_go (H := H) (a := a) (l := l) (x := some (.int (en : Nat))) (s2 (.lst (cutV (ns.map V.int) (some (p : Int)) (some (en : Int))))) (by rw [upd_same, es]) h4' (p := en + 2) (by omega) (by omega) e
              exact ⟨m, by omega, go⟩
            · have g : ¬ (v ≠ 3 ∧ ns[en + 1]? = some 43) := fun y => by
                rw [List.getElem?_eq_getElem hl2] at y
                exact z (Option.some.inj y.2)
              have ez : decide (V.int ns[en + 1] = V.int 43) = false := by rw [dec_int]; exact decide_eq_false z
              rw [ez]
              walk_at "ag rd"
              exact ⟨0, by omega, stop _ g⟩
          · have g : ¬ (v ≠ 3 ∧ ns[en + 1]? = some 43) := fun y => by
              rw [List.getElem?_eq_none (by omega)] at y
              cases y.2
            walk_at "ag rd"
            exact ⟨0, by omega, stop _ g⟩
        · have g : ¬ (v ≠ 3 ∧ ns[en + 1]? = some 43) := fun y => y.1 (by omega)
          walk_at "ag rd"
          exact ⟨0, by omega, stop _ g⟩
  · walk_at "ag rd"
    refine ⟨small' _ (by show 2 ≤ 16777216; decide), fun t ht => ?_⟩
    exact out_ok q e _ l t (sm.new ht) hl (by rw [upd_ne (ne_of_none el ht)]; exact el) upd_same

abbrev s_read_less : Stmt := topS 64
abbrev N_read_less : List Str := ["text", "at", "first", "end"]
theorem sc_read_less : FnScope N_read_less ["text", "at"] (defScope s_read_less) := ⟨rfl, rfl, rfl, by decide +kernel, rfl, by decide +kernel, by decide +kernel⟩
def sp_read_less (K : PySem.W.Frag) (C : Addr) : Sp := sRI fun a i H Q E => ∃ (ns : List Int) (p : Nat), SqL K H a (ns.map V.int) ∧ i = (p : Int) ∧ p ≤ ns.length ∧ out C H E (lessI ns p) fun l => ∀ H', Same H H' → Q (.int l) H'
theorem ok_read_less (T : Txt K mg aL aT aH) (TF : FauTxt K mg C fI) (D : Dfn K mg "read_less" s_read_less) (C_byte_at : Cal P w K mg base (L2.CX P w) 2 "byte_at" (sp_byte_at K C)) (C_number_end : Cal P w K mg base (L2.CX P w) 4 "number_end" (sp_number_end K C))
    (C_number_of : Cal P w K mg base CX0 1 "number_of" (sp_number_of K)) : Cal P w K mg base (L2.CX P w) 5 "read_less" (sp_read_less K C) := by
  refine calX D sc_read_less lRI (fun _ _ _ _ _ _ us hl => match us, hl with | [_, _], _ => rfl) fun f cdv A outer s H vs Q E hr h => ?_
  obtain ⟨a, i, rfl, ns, p, hS, rfl, hp, q⟩ := h
  have tk0 := takes_of (X := cxOf (L2.CX P w) P w K mg base N_read_less "read_less" (defScope s_read_less) f cdv A outer s H E) (E := E) rfl rfl rfl rfl
  refine ⟨_, (pss_cons (ps_if (pt_cmpR op_eq (pv 1) (pe_callB call_len_seq (by rfl) T.fr.n_len (by decide +kernel) (pa_cons (pv 0) pa_nil)) (nomark _)) (pss_one (ps_ret pe_int)) pss_nil)
    (pss_cons (ps_if (pt_cmpR op_ne (pe_ix ix_list (pv 0) (pv 1) (fun _ _ => rfl)) (pe_k T.c_HYPHEN) (nomark _)) (pss_one (ps_raiseF rfl TF hr tk0 (pa_cons (pe_k T.c_WRONG_BYTE) (pa_cons (pv 1) pa_nil)))) pss_nil)
    (pss_cons (ps_set (i := 2) sc_read_less.nd rfl (Or.inl rfl) (pe_op op_add (pv 1) pe_int))
    (pss_cons (ps_set (i := 3) sc_read_less.nd rfl (Or.inl rfl) (pe_fX C_number_end tk0 hr (by decide) (pa_cons (pv 0) (pa_cons (pv 2) pa_nil))))
    (pss_cons (ps_if (pt_cmpR op_ne (pe_fX C_byte_at tk0 hr (by decide) (pa_cons (pv 0) (pa_cons (pv 3) pa_nil))) (pe_k T.c_LETTER_OF_DAYS) (nomark _)) (pss_one (ps_raiseF rfl TF hr tk0 (pa_cons (pe_k T.c_WRONG_BYTE) (pa_cons (pv 3) pa_nil)))) pss_nil)
    (pss_cons (ps_if (pt_cmpR op_lt (pe_op op_add (pv 3) pe_int) (pe_callB call_len_seq (by rfl) T.fr.n_len (by decide +kernel) (pa_cons (pv 0) pa_nil)) (nomark _)) (pss_one (ps_raiseF rfl TF hr tk0 (pa_cons (pe_k T.c_WRONG_BYTE) (pa_cons (pe_op op_add (pv 3) pe_int) pa_nil)))) pss_nil)
    (pss_one (ps_ret (pe_f C_number_of hr (by decide) (pa_cons (pe_slice sl_list (pv 0) (po_some (pv 2)) (po_some (pv 3))) pa_nil)))))))))), ?_⟩
  walk_at "ag rd"
  refine ⟨_, _, rfl, .inl hS, ?_⟩
  walk_at "ag rd"
  rw [ml]
  refine of_eqI (fun c => ?_) (fun c => ?_)
  · have e : lessI ns p = .ok 0 := by
      unfold lessI
      rw [List.getElem?_eq_none (by omega)]
    walk_at "ag rd"
    exact out_ok q e H (Same.refl H)
  · have hl : p < ns.length := by omega
    have e := lessI_some (List.getElem?_eq_getElem hl)
    walk_at "ag rd"
    refine ⟨a, _, _, _, rfl, rfl, hS, at_int (List.getElem?_eq_getElem hl), ?_⟩
    walk_at "ag rd"
    refine of_neI (fun z => ?_) (fun z => ?_)
    · rw [if_pos z] at e
      have q' := out_er q e
      walk_at "ag rd"
      exact fun dd hd => res_new q' (Same.refl H) dd hd
    · rw [if_neg (fun y => y z)] at e
      walk_at "ag rd"
      have e1 : (p : Int) + 1 = ((p + 1 : Nat) : Int) := by omega
      refine ⟨ns, p + 1, hS, e1, by omega, ?_⟩
      cases hn : numEnd ns (p + 1) with
      | error er =>
        rw [hn] at e
        exact out_er q e
      | ok en =>
        rw [hn] at e
        dsimp only at e
        obtain ⟨l1, l2, l3⟩ := numEnd_le hn
        show _
        walk_at "ag rd"
        refine ⟨ns, en, hS, rfl, l2, ?_⟩
        cases hb : ns[en]? with
        | none =>
          rw [hb] at e
          rw [byteAt_er hb]
          exact out_er q e
        | some c =>
          rw [hb] at e
          dsimp only at e
          rw [byteAt_ok hb]
          show _
          walk_at "ag rd"
          refine of_neI (fun y => ?_) (fun y => ?_)
          · rw [if_pos y] at e
            have q' := out_er q e
            walk_at "ag rd"
            exact fun dd hd => res_new q' (Same.refl H) dd hd
          · rw [if_neg (fun x => x y)] at e
            walk_at "ag rd"
            refine ⟨_, _, rfl, .inl hS, ?_⟩
            walk_at "ag rd"
            rw [ml]
            refine of_decide (fun x => ?_) (fun x => ?_)
            · rw [if_pos (by omega)] at e
              have q' := out_er q e
              walk_at "ag rd"
              exact fun dd hd => res_new q' (Same.refl H) dd hd
            · rw [if_neg (by omega)] at e
              have q' := out_ok q e
              walk_at "ag rd"
              refine ⟨a, _, rfl, hS, fun s hs => ?_⟩
              walk_at "ag rd"
              refine ⟨slice ns (p + 1) en, SqL.of ?_, ?_⟩
              · rw [upd_same, e1, cut_slice (Nat.le_of_lt l1) l2]
              exact q' _ (same_new hs)

abbrev s_read_age : Stmt := topS 65
abbrev N_read_age : List Str := ["text", "units", "at"]
theorem sc_read_age : FnScope N_read_age ["text"] (defScope s_read_age) := ⟨rfl, rfl, rfl, by decide +kernel, rfl, by decide +kernel, by decide +kernel⟩
def sp_read_age (K : PySem.W.Frag) (C : Addr) : Sp := sR fun a H Q E => ∃ ns : List Int, SqL K H a (ns.map V.int) ∧ ns.length ≤ 200 ∧ out C H E (rdAge ns) fun l => ∀ H' p, Same H H' → H p = none → H' p = some (.lst (l.map V.int)) → Q (.ref p) H'
theorem ok_read_age (T : Txt K mg aL aT aH) (TF : FauTxt K mg C fI) (D : Dfn K mg "read_age" s_read_age) (C_byte_at : Cal P w K mg base (L2.CX P w) 2 "byte_at" (sp_byte_at K C)) (C_read_nothing : Cal P w K mg base (L2.CX P w) 4 "read_nothing" (sp_read_nothing K C))
    (C_read_units : Cal P w K mg base (L2.CX P w) 5 "read_units" (sp_read_units K C)) (C_read_less : Cal P w K mg base (L2.CX P w) 5 "read_less" (sp_read_less K C)) : Cal P w K mg base (L2.CX P w) 6 "read_age" (sp_read_age K C) := by
  refine calX D sc_read_age lR (fun _ _ _ _ _ _ us hl => match us, hl with | [_], _ => rfl) fun f cdv A outer s H vs Q E hr h => ?_
  obtain ⟨a, rfl, ns, hS, hp, q⟩ := h
  have tk0 := takes_of (X := cxOf (L2.CX P w) P w K mg base N_read_age "read_age" (defScope s_read_age) f cdv A outer s H E) (E := E) rfl rfl rfl rfl
  refine ⟨_, (pss_cons (ps_if (pt_cmpR op_eq (pe_fX C_byte_at tk0 hr (by decide) (pa_cons (pv 0) (pa_cons pe_int pa_nil))) (pe_k T.c_ZERO) (nomark _)) (pss_one (ps_ret (pe_fX C_read_nothing tk0 hr (by decide) (pa_cons (pv 0) pa_nil)))) pss_nil)
    (pss_cons (ps_asg (pe_fX C_read_units tk0 hr (by decide) (pa_cons (pv 0) pa_nil)) (pg_tup (by rfl) (pgs_cons (pg_name (i := 1) sc_read_age.nd rfl (Or.inl rfl)) (pgs_cons (pg_name (i := 2) sc_read_age.nd rfl (Or.inl rfl)) pgs_nil))))
    (pss_one (ps_ret (pe_op op_cat (pv 1) (pe_lst (pa_cons (pe_fX C_read_less tk0 hr (by decide) (pa_cons (pv 0) (pa_cons (pv 2) pa_nil))) pa_nil))))))), ?_⟩
  walk_at "ag rd"
  refine ⟨ns, 0, hS, rfl, Nat.zero_le _, ?_⟩
  cases hb : ns[0]? with
  | none =>
    have e : rdAge ns = .error (1, 0) := by
      unfold rdAge
      rw [hb]
    rw [byteAt_er hb]
    exact out_er q e
  | some c =>
    have e := rdAge_some hb
    have hl : 1 ≤ ns.length := by
      obtain ⟨h1, _⟩ := List.getElem?_eq_some_iff.mp hb
      omega
    rw [byteAt_ok hb]
    show _
    walk_at "ag rd"
    refine of_eqI (fun y => ?_) (fun y => ?_)
    · rw [if_pos y] at e
      rw [e] at q
      walk_at "ag rd"
      exact ⟨ns, hS, hl, q⟩
    · rw [if_neg y] at e
      walk_at "ag rd"
      refine ⟨ns, hS, hp, ?_⟩
      cases hu : unitsI ns (ns.length + 1) [0, 0, 0, 0] (-1) 0 with
      | error er =>
        rw [hu] at e
        exact out_er q e
      | ok r =>
        obtain ⟨us, p⟩ := r
        rw [hu] at e
        dsimp only at e
        intro H1 l t s1 hl1 el et
        dsimp only at el et
        obtain ⟨u4, up⟩ := unitsI_ok ns _ _ _ _ _ _ hu
        refine ⟨t, _, rfl, SqT.of et, rfl, _, _, rfl, ?_⟩
        walk_at "ag rd"
        refine ⟨ns, p, s1.seq hS, rfl, up, ?_⟩
        cases hs : lessI ns p with
        | error er =>
          rw [hs] at e
          exact res_on (out_er q e) s1 fun _ _ z => z
        | ok n =>
          rw [hs] at e
          dsimp only at e
          have q' := out_ok q e
          intro H2 s2
          refine ⟨small' _ (by show 1 ≤ 16777216; decide), fun b hb2 => ?_⟩
          have nlb : l ≠ b := ne_of_none (s2 _ _ el) hb2
          refine ⟨l, b, us.map V.int, _, rfl, rfl, ?_, upd_same, ?_, fun r hr => ?_⟩
          · rw [upd_ne nlb]
            exact s2 _ _ el
          · refine small' _ ?_
            rw [List.length_map, u4]
            show 4 + 1 ≤ 16777216
            decide
          · refine q' _ r (((s1.trans s2).new hb2).new hr) (((s1.trans s2).new hb2).free hr) ?_
            rw [upd_same, List.map_append]
            rfl
end
end Ag

/-! Ages: on which day, how old. -/
namespace Ag
open PySem PySem.Spec PyProof.Rows L2
open VxDay (Age)
section
variable {P : Program} {w : World} {K : PySem.W.Frag} {mg : Str → Option Value} {base : Heap} {aL aT aH : Addr}

theorem ml' (ns : List Int) : ((ns.map V.int).length : Int) = (ns.length : Int) := by rw [List.length_map]

abbrev s_is_age : Stmt := topS 25
abbrev N_is_age : List Str := ["row", "number"]
theorem sc_is_age : FnScope N_is_age ["row"] (defScope s_is_age) := ⟨rfl, rfl, rfl, by decide +kernel, rfl, by decide +kernel, by decide +kernel⟩
def isAgeI (ns : List Int) : Bool := match ns with
  | [y, m, w, d, s] => [y, m, w, d, s].all (fun x => decide (0 ≤ x) && decide (x ≤ 9999)) && (decide (s = 0) || decide (0 < y + m + w + d))
  | _ => false
theorem five {ns : List Int} (h : ns.length = 5) : ∃ y m w d s, ns = [y, m, w, d, s] := by
  match ns, h with
  | [y, m, w, d, s], _ => exact ⟨y, m, w, d, s, rfl⟩
theorem isAge_len {ns : List Int} (h : ¬ ns.length = 5) : isAgeI ns = false := by
  unfold isAgeI
  split
  · exact absurd rfl h
  · rfl
def sp_is_age (K : PySem.W.Frag) : Sp := sR fun a H Q _ => ∃ ns : List Int, SqL K H a (ns.map V.int) ∧ ∀ H', Same H H' → Q (.bl (isAgeI ns)) H'
theorem ok_is_age (T : Txt K mg aL aT aH) (D : Dfn K mg "is_age" s_is_age) : Cal P w K mg base CX0 1 "is_age" (sp_is_age K) := by
  refine cal0 D sc_is_age lR (fun _ _ _ _ _ _ us hl => match us, hl with | [_], _ => rfl) fun f cdv A outer s H vs Q E hr h => ?_
  obtain ⟨a, rfl, ns, hS, q⟩ := h
  refine ⟨_, (pss_cons (ps_if (pt_cmpR op_ne (pe_callB call_len_seq (by rfl) T.fr.n_len (by decide +kernel) (pa_cons (pv 0) pa_nil)) (pe_k T.c_PARTS) (nomark _)) (pss_one (ps_ret pe_bl)) pss_nil)
    (pss_cons (ps_if (pt_not (pt_val (pe_callB (cr_all rfl) (by rfl) T.fr.n_all (by decide +kernel) (pa_cons (pe_lc (own := [("number", 1)]) (g := gName 1) (tt := tYes) (by rfl) sc_is_age.nd (pi_list (pv 0)) (blkOk_by (own := [("number", 1)]) (N := N_is_age) (sc := defScope s_is_age) (by decide +kernel)) (fun _ _ _ _ _ => pg_name (i := 1) sc_is_age.nd rfl (Or.inl rfl)) (fun _ _ _ _ _ => pts_nil) (fun _ _ _ _ _ => (pe_chain op_le op_le pe_int (pv 1) (pe_k T.c_MOST)))) pa_nil)))) (pss_one (ps_ret pe_bl)) pss_nil)
    (pss_one (ps_ret (pe_or (pe_cmpR op_eq (pe_ix ix_list (pv 0) pe_int (fun _ _ => rfl)) pe_int (nomark _)) (pe_one (pe_cmpR op_gt (pe_callB (cr_sum rfl) (by rfl) T.fr.n_sum (by decide +kernel) (pa_cons (pe_slice sl_list (pv 0) (po_some pe_int) (po_some pe_int)) pa_nil)) pe_int (nomark _)))))))), ?_⟩
  walk_at "ag rd"
  refine ⟨_, _, rfl, .inl hS, ?_⟩
  walk_at "ag rd"
  rw [ml']
  refine of_neI (fun c => ?_) (fun c => ?_)
  · walk_at "ag rd"
    have e := q H (Same.refl H)
    rw [isAge_len (by omega)] at e
    exact e
  · obtain ⟨y, m, v, d, s', rfl⟩ := five (ns := ns) (by omega)
    walk_at "ag rd"
    refine ⟨⟨_, hS⟩, fun Dn hD => ?_⟩
    refine lc_map walk_list (fun j => .int ([y, m, v, d, s'].getD j 0)) (fun j => .bl (decide (0 ≤ [y, m, v, d, s'].getD j 0) && decide ([y, m, v, d, s'].getD j 0 ≤ 9999))) lst_Y hD (small _ (by show 5 ≤ 16777215; decide)) (fun H1 s1 => s1.seq hS) (fun _ => rfl) (fun j Hj hj sj Qj qj => ?_) (fun H1 s1 e1 => ?_)
    · have qq := qj Hj (Same.refl _)
      walk_at "ag rd"
      refine of_decide (fun z => ?_) (fun z => ?_)
      · rw [decide_eq_true z, Bool.true_and] at qq
        exact ⟨_, _, rfl, rfl, qq⟩
      · rw [decide_eq_false z, Bool.false_and] at qq
        exact qq
    · refine ⟨Dn, [y, m, v, d, s'].map fun x => decide (0 ≤ x) && decide (x ≤ 9999), rfl, SqL.of e1, ?_⟩
      have ea : ([y, m, v, d, s'].map fun x => decide (0 ≤ x) && decide (x ≤ 9999)).all id = [y, m, v, d, s'].all fun x => decide (0 ≤ x) && decide (x ≤ 9999) := by
        rw [List.all_map]
        rfl
      rw [ea]
      have qs := fun H' s'' => q H' (s1.trans s'')
      unfold isAgeI at qs
      dsimp only at qs
      walk_at "ag rd"
      refine of_not (fun z => ?_) (fun z => ?_)
      · walk_at "ag rd"
        have e := qs H1 (Same.refl _)
        rw [z] at e
        exact e
      · rw [z] at qs
        walk_at "ag rd"
        have hS1 := s1.seq hS
        refine ⟨a, _, _, _, rfl, rfl, hS1, (show atI ([y, m, v, d, s'].map V.int) 4 = some (.int s') from rfl), ?_⟩
        walk_at "ag rd"
        refine of_eqI (fun y0 => ?_) (fun y0 => ?_)
        · have e := qs H1 (Same.refl _)
          rw [decide_eq_true y0] at e
          exact e
        · walk_at "ag rd"
          refine ⟨a, _, rfl, hS1, fun p hp => ?_⟩
          walk_at "ag rd"
          refine ⟨p, [y, m, v, d], rfl, SqL.of upd_same, ?_⟩
          have e := qs _ (same_new (o := .lst (cutV ([y, m, v, d, s'].map V.int) (some 0) (some 4))) hp)
          rw [decide_eq_false y0] at e
          walk_at "ag rd"
          have es : ([y, m, v, d] : List Int).sum = y + m + v + d := by
            simp only [List.sum_cons, List.sum_nil]
            omega
          rw [es]
          exact e

abbrev s_whole_months : Stmt := topS 26
abbrev N_whole_months : List Str := ["age"]
theorem sc_whole_months : FnScope N_whole_months ["age"] (defScope s_whole_months) := ⟨rfl, rfl, rfl, by decide +kernel, rfl, by decide +kernel, by decide +kernel⟩
def sp_whole_months (K : PySem.W.Frag) : Sp := sR fun a H Q _ => ∃ A : Age, SqL K H a ((AgeSpec.ageNums A).map V.int) ∧ Q (.int (wm A : Nat)) H
theorem ok_whole_months (T : Txt K mg aL aT aH) (D : Dfn K mg "whole_months" s_whole_months) : Cal P w K mg base CX0 1 "whole_months" (sp_whole_months K) := by
  refine cal0 D sc_whole_months lR (fun _ _ _ _ _ _ us hl => match us, hl with | [_], _ => rfl) fun f cdv A outer s H vs Q E hr h => ?_
  obtain ⟨a, rfl, A, hS, q⟩ := h
  refine ⟨_, (pss_one (ps_ret (pe_op op_add (pe_op op_mul (pe_k T.c_MONTHS) (pe_ix ix_list (pv 0) pe_int (fun _ _ => rfl))) (pe_ix ix_list (pv 0) pe_int (fun _ _ => rfl))))), ?_⟩
  walk_at "ag rd"
  refine ⟨a, _, _, _, rfl, rfl, hS, (show atI ((AgeSpec.ageNums A).map V.int) 0 = some (.int A.years) from rfl), ?_⟩
  walk_at "ag rd"
  refine ⟨.inl ⟨by decide, by decide⟩, ?_⟩
  walk_at "ag rd"
  refine ⟨a, _, _, _, rfl, rfl, hS, (show atI ((AgeSpec.ageNums A).map V.int) 1 = some (.int A.months) from rfl), ?_⟩
  walk_at "ag rd"
  have e : (12 * (A.years : Int) + (A.months : Int)) = ((wm A : Nat) : Int) := by
    unfold wm
    omega
  show Q (.int (12 * (A.years : Int) + (A.months : Int))) H
  rw [e]
  exact q

abbrev s_days_more : Stmt := topS 27
abbrev N_days_more : List Str := ["age"]
theorem sc_days_more : FnScope N_days_more ["age"] (defScope s_days_more) := ⟨rfl, rfl, rfl, by decide +kernel, rfl, by decide +kernel, by decide +kernel⟩
def sp_days_more (K : PySem.W.Frag) : Sp := sR fun a H Q _ => ∃ A : Age, SqL K H a ((AgeSpec.ageNums A).map V.int) ∧ Q (.int (dm A)) H
theorem ok_days_more (T : Txt K mg aL aT aH) (D : Dfn K mg "days_more" s_days_more) : Cal P w K mg base CX0 1 "days_more" (sp_days_more K) := by
  refine cal0 D sc_days_more lR (fun _ _ _ _ _ _ us hl => match us, hl with | [_], _ => rfl) fun f cdv A outer s H vs Q E hr h => ?_
  obtain ⟨a, rfl, A, hS, q⟩ := h
  refine ⟨_, (pss_one (ps_ret (pe_op op_sub (pe_op op_add (pe_op op_mul (pe_k T.c_WEEK) (pe_ix ix_list (pv 0) pe_int (fun _ _ => rfl))) (pe_ix ix_list (pv 0) pe_int (fun _ _ => rfl))) (pe_ix ix_list (pv 0) pe_int (fun _ _ => rfl))))), ?_⟩
  walk_at "ag rd"
  refine ⟨a, _, _, _, rfl, rfl, hS, (show atI ((AgeSpec.ageNums A).map V.int) 2 = some (.int A.weeks) from rfl), ?_⟩
  walk_at "ag rd"
  refine ⟨.inl ⟨by decide, by decide⟩, ?_⟩
  walk_at "ag rd"
  refine ⟨a, _, _, _, rfl, rfl, hS, (show atI ((AgeSpec.ageNums A).map V.int) 3 = some (.int A.days) from rfl), ?_⟩
  walk_at "ag rd"
  refine ⟨a, _, _, _, rfl, rfl, hS, (show atI ((AgeSpec.ageNums A).map V.int) 4 = some (.int A.less) from rfl), ?_⟩
  walk_at "ag rd"
  exact q

abbrev s_months_on : Stmt := topS 28
abbrev N_months_on : List Str := ["b", "k", "year", "month", "day", "later_year", "later_month", "length", "before"]
theorem sc_months_on : FnScope N_months_on ["b", "k"] (defScope s_months_on) := ⟨rfl, rfl, rfl, by decide +kernel, rfl, by decide +kernel, by decide +kernel⟩
def sp_months_on : Sp := sII fun b k H Q _ => ∃ bn kn : Nat, b = (bn : Int) ∧ k = (kn : Int) ∧ 1 ≤ bn ∧ bn ≤ 73049 ∧ ∀ H', Same H H' → Q (.int (mo bn kn : Nat)) H'
theorem ok_months_on (T : Txt K mg aL aT aH) (D : Dfn K mg "months_on" s_months_on) (C_date_of : Cal P w K mg base CX0 4 "date_of" sp_date_of) (C_month_on : Cal P w K mg base CX0 1 "month_on" sp_month_on) (C_month_length : Cal P w K mg base CX0 2 "month_length" sp_month_length)
    (C_days_before_month : Cal P w K mg base CX0 3 "days_before_month" sp_days_before_month) : Cal P w K mg base CX0 5 "months_on" sp_months_on := by
  refine cal0 D sc_months_on lII (fun _ _ _ _ _ _ us hl => match us, hl with | [_, _], _ => rfl) fun f cdv A outer s H vs Q E hr h => ?_
  obtain ⟨b, k, rfl, bn, kn, rfl, rfl, h1, h2, q⟩ := h
  refine ⟨_, (pss_cons (ps_asg (pe_f C_date_of hr (by decide) (pa_cons (pv 0) pa_nil)) (pg_tup (by rfl) (pgs_cons (pg_name (i := 2) sc_months_on.nd rfl (Or.inl rfl)) (pgs_cons (pg_name (i := 3) sc_months_on.nd rfl (Or.inl rfl)) (pgs_cons (pg_name (i := 4) sc_months_on.nd rfl (Or.inl rfl)) pgs_nil)))))
    (pss_cons (ps_asg (pe_f C_month_on hr (by decide) (pa_cons (pv 2) (pa_cons (pv 3) (pa_cons (pv 1) pa_nil)))) (pg_tup (by rfl) (pgs_cons (pg_name (i := 5) sc_months_on.nd rfl (Or.inl rfl)) (pgs_cons (pg_name (i := 6) sc_months_on.nd rfl (Or.inl rfl)) pgs_nil))))
    (pss_cons (ps_set (i := 7) sc_months_on.nd rfl (Or.inl rfl) (pe_f C_month_length hr (by decide) (pa_cons (pv 5) (pa_cons (pv 6) pa_nil))))
    (pss_cons (ps_set (i := 8) sc_months_on.nd rfl (Or.inl rfl) (pe_f C_days_before_month hr (by decide) (pa_cons (pv 5) (pa_cons (pv 6) pa_nil))))
    (pss_cons (ps_if (pt_cmpR op_le (pv 4) (pv 7) (nomark _)) (pss_one (ps_ret (pe_op op_add (pv 8) (pv 4)))) pss_nil)
    (pss_one (ps_ret (pe_op op_add (pe_op op_add (pv 8) (pv 7)) pe_int)))))))), ?_⟩
  walk_at "ag rd"
  refine ⟨by omega, fun y m d H1 p1 hy hd s1 np1 e1 => ?_⟩
  refine ⟨p1, _, rfl, SqT.of e1, rfl, _, _, rfl, _, _, rfl, _, _, rfl, rfl, ?_⟩
  walk_at "ag rd"
  intro H2 p2 s2 np2 e2
  refine ⟨p2, _, rfl, SqT.of e2, rfl, _, _, rfl, _, _, rfl, rfl, ?_⟩
  have em := mo_eq (k := kn) h1 (by omega) hd
  walk_at "ag rd"
  refine ⟨by omega, by omega, ?_⟩
  walk_at "ag rd"
  refine ⟨by omega, by omega, fun H3 s3 => ?_⟩
  have q' := q H3 ((s1.trans s2).trans s3)
  rw [em] at q'
  unfold moT at q'
  walk_at "ag rd"
  refine of_decide (fun c => ?_) (fun c => ?_)
  · have c' : d ≤ mln (12 * y + m - 1 + kn) := c
    rw [if_pos c'] at q'
    walk_at "ag rd"
    exact q'
  · have c' : ¬ d ≤ mln (12 * y + m - 1 + kn) := c
    rw [if_neg c'] at q'
    walk_at "ag rd"
    exact q'

abbrev s_reckoned : Stmt := topS 29
abbrev N_reckoned : List Str := ["b", "age"]
theorem sc_reckoned : FnScope N_reckoned ["b", "age"] (defScope s_reckoned) := ⟨rfl, rfl, rfl, by decide +kernel, rfl, by decide +kernel, by decide +kernel⟩
def sp_reckoned (K : PySem.W.Frag) : Sp := sIR fun b a H Q _ => ∃ (bn : Nat) (A : Age), b = (bn : Int) ∧ 1 ≤ bn ∧ bn ≤ 73049 ∧ SqL K H a ((AgeSpec.ageNums A).map V.int) ∧ ∀ H', Same H H' → Q (.int (reck A bn)) H'
theorem ok_reckoned (T : Txt K mg aL aT aH) (D : Dfn K mg "reckoned" s_reckoned) (C_months_on : Cal P w K mg base CX0 5 "months_on" sp_months_on) (C_whole_months : Cal P w K mg base CX0 1 "whole_months" (sp_whole_months K)) (C_days_more : Cal P w K mg base CX0 1 "days_more" (sp_days_more K)) :
    Cal P w K mg base CX0 6 "reckoned" (sp_reckoned K) := by
  refine cal0 D sc_reckoned lIR (fun _ _ _ _ _ _ us hl => match us, hl with | [_, _], _ => rfl) fun f cdv A outer s H vs Q E hr h => ?_
  obtain ⟨b, a, rfl, bn, A, rfl, h1, h2, hS, q⟩ := h
  refine ⟨_, (pss_one (ps_ret (pe_op op_add (pe_f C_months_on hr (by decide) (pa_cons (pv 0) (pa_cons (pe_f C_whole_months hr (by decide) (pa_cons (pv 1) pa_nil)) pa_nil))) (pe_f C_days_more hr (by decide) (pa_cons (pv 1) pa_nil))))), ?_⟩
  walk_at "ag rd"
  refine ⟨A, hS, ?_⟩
  walk_at "ag rd"
  refine ⟨h1, h2, fun H1 s1 => ?_⟩
  walk_at "ag rd"
  refine ⟨A, s1.seq hS, ?_⟩
  walk_at "ag rd"
  exact q H1 s1

abbrev s_day_reached : Stmt := topS 30
abbrev N_day_reached : List Str := ["b", "age", "n"]
theorem sc_day_reached : FnScope N_day_reached ["b", "age"] (defScope s_day_reached) := ⟨rfl, rfl, rfl, by decide +kernel, rfl, by decide +kernel, by decide +kernel⟩
def sp_day_reached (K : PySem.W.Frag) : Sp := sIR fun b a H Q _ => ∃ (bn : Nat) (A : Age), b = (bn : Int) ∧ 1 ≤ bn ∧ bn ≤ 73049 ∧ SqL K H a ((AgeSpec.ageNums A).map V.int) ∧ ∀ H', Same H H' → Q (.int (AgeSpec.dayOut (A.on bn))) H'
theorem ok_day_reached (T : Txt K mg aL aT aH) (D : Dfn K mg "day_reached" s_day_reached) (C_reckoned : Cal P w K mg base CX0 6 "reckoned" (sp_reckoned K)) (C_is_day : Cal P w K mg base CX0 1 "is_day" sp_is_day) :
    Cal P w K mg base CX0 7 "day_reached" (sp_day_reached K) := by
  refine cal0 D sc_day_reached lIR (fun _ _ _ _ _ _ us hl => match us, hl with | [_, _], _ => rfl) fun f cdv A outer s H vs Q E hr h => ?_
  obtain ⟨b, a, rfl, bn, A, rfl, h1, h2, hS, q⟩ := h
  refine ⟨_, (pss_cons (ps_set (i := 2) sc_day_reached.nd rfl (Or.inl rfl) (pe_f C_reckoned hr (by decide) (pa_cons (pv 0) (pa_cons (pv 1) pa_nil))))
    (pss_one (ps_ret (pe_ifExp (pt_val (pe_f C_is_day hr (by decide) (pa_cons (pv 2) pa_nil))) (pv 2) pe_int)))), ?_⟩
  walk_at "ag rd"
  refine ⟨bn, A, rfl, h1, h2, hS, fun H1 s1 => ?_⟩
  have q' := q H1 s1
  rw [dayOut_on h1 h2] at q'
  walk_at "ag rd"
  refine of_bool (fun c => ?_) (fun c => ?_)
  · have c' : 1 ≤ reck A bn ∧ reck A bn ≤ 73049 := by
      unfold isDayI at c
      simpa using c
    rw [if_pos c'] at q'
    walk_at "ag rd"
    exact q'
  · have c' : ¬ (1 ≤ reck A bn ∧ reck A bn ≤ 73049) := by
      unfold isDayI at c
      simpa using c
    rw [if_neg c'] at q'
    exact q'

abbrev s_months_old : Stmt := topS 31
abbrev N_months_old : List Str := ["b", "n", "year", "month", "day", "now_year", "now_month", "now_day", "k"]
theorem sc_months_old : FnScope N_months_old ["b", "n"] (defScope s_months_old) := ⟨rfl, rfl, rfl, by decide +kernel, rfl, by decide +kernel, by decide +kernel⟩
def sp_months_old : Sp := sII fun b n H Q _ => ∃ bn nn : Nat, b = (bn : Int) ∧ n = (nn : Int) ∧ 1 ≤ bn ∧ bn ≤ nn ∧ nn ≤ 73049 ∧ ∀ H', Same H H' → Q (.int (AgeSpec.monthsOld bn nn (AgeSpec.monthsMost bn nn) : Nat)) H'
theorem ok_months_old (T : Txt K mg aL aT aH) (D : Dfn K mg "months_old" s_months_old) (C_date_of : Cal P w K mg base CX0 4 "date_of" sp_date_of) (C_months_on : Cal P w K mg base CX0 5 "months_on" sp_months_on) : Cal P w K mg base CX0 6 "months_old" sp_months_old := by
  refine cal0 D sc_months_old lII (fun _ _ _ _ _ _ us hl => match us, hl with | [_, _], _ => rfl) fun f cdv A outer s H vs Q E hr h => ?_
  obtain ⟨b, n, rfl, bn, nn, rfl, rfl, h1, h2, h3, q⟩ := h
  refine ⟨_, (pss_cons (ps_asg (pe_f C_date_of hr (by decide) (pa_cons (pv 0) pa_nil)) (pg_tup (by rfl) (pgs_cons (pg_name (i := 2) sc_months_old.nd rfl (Or.inl rfl)) (pgs_cons (pg_name (i := 3) sc_months_old.nd rfl (Or.inl rfl)) (pgs_cons (pg_name (i := 4) sc_months_old.nd rfl (Or.inl rfl)) pgs_nil)))))
    (pss_cons (ps_asg (pe_f C_date_of hr (by decide) (pa_cons (pv 1) pa_nil)) (pg_tup (by rfl) (pgs_cons (pg_name (i := 5) sc_months_old.nd rfl (Or.inl rfl)) (pgs_cons (pg_name (i := 6) sc_months_old.nd rfl (Or.inl rfl)) (pgs_cons (pg_name (i := 7) sc_months_old.nd rfl (Or.inl rfl)) pgs_nil)))))
    (pss_cons (ps_set (i := 8) sc_months_old.nd rfl (Or.inl rfl) (pe_op op_sub (pe_op op_add (pe_op op_mul (pe_k T.c_MONTHS) (pe_op op_sub (pv 5) (pv 2))) (pv 6)) (pv 3)))
    (pss_one (ps_ret (pe_ifExp (pt_cmpR op_le (pe_f C_months_on hr (by decide) (pa_cons (pv 0) (pa_cons (pv 8) pa_nil))) (pv 1) (nomark _)) (pv 8) (pe_op op_sub (pv 8) pe_int))))))), ?_⟩
  walk_at "ag rd"
  refine ⟨by omega, fun y m d H1 p1 hy hd s1 np1 e1 => ?_⟩
  refine ⟨p1, _, rfl, SqT.of e1, rfl, _, _, rfl, _, _, rfl, _, _, rfl, rfl, ?_⟩
  walk_at "ag rd"
  refine ⟨by omega, fun y' m' d' H2 p2 hy' hd' s2 np2 e2 => ?_⟩
  refine ⟨p2, _, rfl, SqT.of e2, rfl, _, _, rfl, _, _, rfl, _, _, rfl, rfl, ?_⟩
  obtain ⟨eo, e0, el⟩ := monthsOld_eq h1 (by omega) (by omega) (by omega) h2 hd hd'
  walk_at "ag rd"
  refine ⟨.inl ⟨by decide, by decide⟩, ?_⟩
  walk_at "ag rd"
  refine ⟨bn, (12 * (y' - y) + m' - m).toNat, rfl, ?_, h1, by omega, fun H3 s3 => ?_⟩
  · show 12 * (y' - y) + m' - m = _
    omega
  have q' := q H3 ((s1.trans s2).trans s3)
  rw [eo] at q'
  walk_at "ag rd"
  refine of_decide (fun c => ?_) (fun c => ?_)
  · rw [if_pos (by omega)] at q'
    walk_at "ag rd"
    exact q'
  · rw [if_neg (by omega)] at q'
    walk_at "ag rd"
    exact q'
end
end Ag

/-! Who's so old on a day; who is sooner. -/
namespace Ag
open PySem PySem.Spec PyProof.Rows L2
open VxDay (Age)
section
variable {P : Program} {w : World} {K : PySem.W.Frag} {mg : Str → Option Value} {base : Heap} {aL aT aH : Addr}

abbrev s_births : Stmt := topS 32
abbrev N_births : List Str := ["n", "age", "target", "year", "month", "day", "k", "found", "back", "birth_year", "birth_month", "birth_day", "b"]
theorem sc_births : FnScope N_births ["n", "age"] (defScope s_births) := ⟨rfl, rfl, rfl, by decide +kernel, rfl, by decide +kernel, by decide +kernel⟩
/-- the months gone through so far -/
def segs (t : Int) (k : Nat) (i : Nat) : List Int := match i with
  | 0 => []
  | 1 => seg (mst (t - k - 1) + 1) (mln (t - k - 1)).toNat
  | _ => seg (mst (t - k - 1) + 1) (mln (t - k - 1)).toNat ++ seg (mst (t - k) + 1) (mln (t - k)).toNat
theorem seg_len (lo : Int) (n : Nat) : (seg lo n).length = n := by
  unfold seg
  rw [List.length_map, List.length_range]
theorem seg_more (lo : Int) (n : Nat) : seg lo (n + 1) = seg lo n ++ [lo + n] := by
  unfold seg
  rw [List.range_succ, List.map_append]
  rfl
theorem segs_len (t : Int) (k i : Nat) : (segs t k i).length ≤ 62 := by
  have a := mln_bounds (t - k - 1)
  have b := mln_bounds (t - k)
  unfold segs
  split
  · exact Nat.zero_le _
  · rw [seg_len]; omega
  · rw [List.length_append, seg_len, seg_len]; omega
theorem segs_step {t : Int} {k i : Nat} {back : Int} (hi : i < 2) (hb : back = (k : Int) + 1 - i) : segs t k (i + 1) = segs t k i ++ seg (mst (t + -back) + 1) (mln (t + -back)).toNat := by
  have : i = 0 ∨ i = 1 := by omega
  rcases this with rfl | rfl
  · have e : t + -back = t - k - 1 := by omega
    rw [e]
    rfl
  · have e : t + -back = t - k := by omega
    rw [e]
    rfl
theorem okB_yes {A : Age} {n b : Int} (h1 : 1 ≤ b) (h2 : b ≤ 73049) (hr : reck A b.toNat = n) : okB A n b = true := by
  unfold okB
  rw [decide_eq_true ⟨h1, h2⟩, decide_eq_true hr]
  rfl
theorem okB_far {A : Age} {n b : Int} (h : ¬ (1 ≤ b ∧ b ≤ 73049)) : okB A n b = false := by
  unfold okB
  rw [decide_eq_false h]
  rfl
theorem okB_no {A : Age} {n b : Int} (hr : ¬ reck A b.toNat = n) : okB A n b = false := by
  unfold okB
  rw [decide_eq_false hr, Bool.and_false]
theorem filter_more {p : Int → Bool} (pre : List Int) (lo : Int) (j : Nat) : (pre ++ seg lo (j + 1)).filter p = (pre ++ seg lo j).filter p ++ (if p (lo + j) = true then [lo + j] else []) := by
  rw [seg_more, ← List.append_assoc, List.filter_append (pre ++ seg lo j), List.filter_cons, List.filter_nil]
def sp_births (K : PySem.W.Frag) : Sp := sIR fun n a H Q _ => ∃ (nn : Nat) (A : Age), n = (nn : Int) ∧ 1 ≤ nn ∧ nn ≤ 73049 ∧ A.weeks ≤ 9999 ∧ A.days ≤ 9999 ∧ A.less ≤ 9999 ∧ SqL K H a ((AgeSpec.ageNums A).map V.int) ∧
  ∀ H' p, Same H H' → H p = none → H' p = some (.lst (((AgeSpec.births A nn).map fun (x : Nat) => (x : Int)).map V.int)) → Q (.ref p) H'
theorem ok_births (T : Txt K mg aL aT aH) (D : Dfn K mg "births" s_births) (C_days_more : Cal P w K mg base CX0 1 "days_more" (sp_days_more K)) (C_date_of : Cal P w K mg base CX0 4 "date_of" sp_date_of) (C_whole_months : Cal P w K mg base CX0 1 "whole_months" (sp_whole_months K))
    (C_month_on : Cal P w K mg base CX0 1 "month_on" sp_month_on) (C_month_length : Cal P w K mg base CX0 2 "month_length" sp_month_length) (C_day_of : Cal P w K mg base CX0 4 "day_of" sp_day_of) (C_is_day : Cal P w K mg base CX0 1 "is_day" sp_is_day)
    (C_reckoned : Cal P w K mg base CX0 6 "reckoned" (sp_reckoned K)) : Cal P w K mg base CX0 7 "births" (sp_births K) := by
  refine cal0 D sc_births lIR (fun _ _ _ _ _ _ us hl => match us, hl with | [_, _], _ => rfl) fun f cdv A outer s H vs Q E hr h => ?_
  obtain ⟨n, a, rfl, nn, A, rfl, h1, h2, b1, b2, b3, hS, q⟩ := h
  refine ⟨_, (pss_cons (ps_set (i := 2) sc_births.nd rfl (Or.inl rfl) (pe_op op_sub (pv 0) (pe_f C_days_more hr (by decide) (pa_cons (pv 1) pa_nil))))
    (pss_cons (ps_if (pt_cmpR op_lt (pv 2) pe_int (nomark _)) (pss_one (ps_ret (pe_lst pa_nil))) pss_nil)
    (pss_cons (ps_asg (pe_f C_date_of hr (by decide) (pa_cons (pv 2) pa_nil)) (pg_tup (by rfl) (pgs_cons (pg_name (i := 3) sc_births.nd rfl (Or.inl rfl)) (pgs_cons (pg_name (i := 4) sc_births.nd rfl (Or.inl rfl)) (pgs_cons (pg_name (i := 5) sc_births.nd rfl (Or.inl rfl)) pgs_nil)))))
    (pss_cons (ps_set (i := 6) sc_births.nd rfl (Or.inl rfl) (pe_f C_whole_months hr (by decide) (pa_cons (pv 1) pa_nil)))
    (pss_cons (ps_set (i := 7) sc_births.nd rfl (Or.inl rfl) (pe_lst pa_nil))
    (pss_cons (ps_for PassesOwn.never rfl (pi_tup (pe_tup (pa_cons (pe_op op_add (pv 6) pe_int) (pa_cons (pv 6) pa_nil)))) (pg_name (i := 8) sc_births.nd rfl (Or.inl rfl))
    (pss_cons (ps_asg (pe_f C_month_on hr (by decide) (pa_cons (pv 3) (pa_cons (pv 4) (pa_cons (pe_un un_neg (pv 8)) pa_nil)))) (pg_tup (by rfl) (pgs_cons (pg_name (i := 9) sc_births.nd rfl (Or.inl rfl)) (pgs_cons (pg_name (i := 10) sc_births.nd rfl (Or.inl rfl)) pgs_nil))))
    (pss_one (ps_for PassesOwn.never rfl (pi_range2 rfl T.fr.n_range (pa_cons pe_int (pa_cons (pe_op op_add (pe_f C_month_length hr (by decide) (pa_cons (pv 9) (pa_cons (pv 10) pa_nil))) pe_int) pa_nil))) (pg_name (i := 11) sc_births.nd rfl (Or.inl rfl))
    (pss_cons (ps_set (i := 12) sc_births.nd rfl (Or.inl rfl) (pe_f C_day_of hr (by decide) (pa_cons (pv 9) (pa_cons (pv 10) (pa_cons (pv 11) pa_nil)))))
    (pss_one (ps_if (PW.pt (pw_and (pt_val (pe_f C_is_day hr (by decide) (pa_cons (pv 12) pa_nil))) (pw_and1 (pt_cmpR op_eq (pe_f C_reckoned hr (by decide) (pa_cons (pv 12) (pa_cons (pv 1) pa_nil))) (pv 0) (nomark _))))) (pss_one (ps_expr (pe_bm PySem.F.plainAttrs_list PySem.F.slot_list_append PySem.F.type_list_append mt_append (pv 7) (pa_cons (pv 12) pa_nil)))) pss_nil)))))))
    (pss_one (ps_ret (pv 7))))))))), ?_⟩
  walk_at "ag rd"
  refine ⟨A, hS, ?_⟩
  walk_at "ag rd"
  refine of_decide (fun c => ?_) (fun c => ?_)
  · walk_at "ag rd"
    refine ⟨Nat.zero_le _, fun p hp => ?_⟩
    refine q _ p (same_new hp) hp ?_
    rw [upd_same, births_nil h1 h2 c]
    rfl
  · have hT : 1 ≤ (nn : Int) - dm A := by omega
    walk_at "ag rd"
    refine ⟨hT, fun y m d H1 p1 hy hd s1 np1 e1 => ?_⟩
    refine ⟨p1, _, rfl, SqT.of e1, rfl, _, _, rfl, _, _, rfl, _, _, rfl, rfl, ?_⟩
    walk_at "ag rd"
    refine ⟨A, s1.seq hS, ?_⟩
    walk_at "ag rd"
    refine ⟨Nat.zero_le _, fun l hl => ?_⟩
    have nl : H l = none := s1.free hl
    have s2 : Same H (upd H1 l (.lst [])) := s1.new hl
    walk_at "ag rd"
    refine ⟨small' _ (by show 2 ≤ 16777216; decide), fun tp htp => ?_⟩
    have nlt : l ≠ tp := ne_of_none (upd_same (H := H1) (a := l) (o := .lst [])) htp
    refine ⟨tp, rfl, ⟨_, SqT.of upd_same⟩, for_tup (K := K) (a := tp) (xs := [.int ((wm A : Nat) + 1), .int (wm A : Nat)])
      (fun i σ H' => ∃ x8 x9 x10 x11 x12, σ = [some (.int nn), some (.ref a), some (.int (nn - dm A)), some (.int y), some (.int m), some (.int d), some (.int (wm A : Nat)), some (.ref l), x8, x9, x10, x11, x12] ∧ Same H H' ∧
        H' tp = some (.tup [.int ((wm A : Nat) + 1), .int (wm A : Nat)]) ∧ H' l = some (.lst (((segs (12 * y + m - 1) (wm A) i).filter (okB A nn)).map V.int)))
      ⟨none, none, none, none, none, rfl, s2.new htp, upd_same, by rw [upd_ne nlt, upd_same]; rfl⟩ (fun i σ H' _ ⟨_, _, _, _, _, _, _, e, _⟩ => SqT.of e) ?_ ?_⟩
    · rintro i x σ H' hi ⟨x8, x9, x10, x11, x12, rfl, sm, et, el⟩
      obtain ⟨back, rfl, hb, hi2⟩ : ∃ back : Int, x = .int back ∧ back = ((wm A : Nat) : Int) + 1 - i ∧ i < 2 := by
        have : i = 0 ∨ i = 1 := by
          have := (List.getElem?_eq_some_iff.mp hi).1
          have e2 : ([V.int ((wm A : Nat) + 1), .int (wm A : Nat)]).length = 2 := rfl
          omega
        rcases this with rfl | rfl
        · exact ⟨_, (Option.some.inj hi).symm, by omega, by decide⟩
        · exact ⟨_, (Option.some.inj hi).symm, by omega, by decide⟩
      have stp := segs_step (t := 12 * y + m - 1) hi2 hb
      have sl := segs_len (12 * y + m - 1) (wm A) i
      walk_at "ag rd"
      intro H2 p2 s3 np2 e2
      refine ⟨p2, _, rfl, SqT.of e2, rfl, _, _, rfl, _, _, rfl, rfl, ?_⟩
      have mlb := mln_bounds (12 * y + m - 1 + -back)
      generalize hseg : segs (12 * y + m - 1) (wm A) i = pre at *
      have h11 : 1 ≤ (12 * y + m - 1 + -back) % 12 + 1 := by omega
      have h12 : (12 * y + m - 1 + -back) % 12 + 1 ≤ 12 := by omega
      walk_at "ag rd"
      refine ⟨h11, h12, ?_⟩
      walk_at "ag rd"
      have em : mlI ((12 * y + m - 1 + -back) / 12) ((12 * y + m - 1 + -back) % 12 + 1) = mln (12 * y + m - 1 + -back) := rfl
      have ed : ∀ z, dayI ((12 * y + m - 1 + -back) / 12) ((12 * y + m - 1 + -back) % 12 + 1) z = mst (12 * y + m - 1 + -back) + z := fun z => rfl
      refine ⟨⟨by decide, by decide, by omega, by omega⟩, for_range (lo := 1)
        (fun j σ H'' => ∃ x11 x12, σ = [some (.int nn), some (.ref a), some (.int (nn - dm A)), some (.int y), some (.int m), some (.int d), some (.int (wm A : Nat)), some (.ref l), some (.int back), some (.int ((12 * y + m - 1 + -back) / 12)), some (.int ((12 * y + m - 1 + -back) % 12 + 1)), x11, x12] ∧ Same H H'' ∧
          H'' tp = some (.tup [.int ((wm A : Nat) + 1), .int (wm A : Nat)]) ∧ H'' l = some (.lst (((pre ++ seg (mst (12 * y + m - 1 + -back) + 1) j).filter (okB A nn)).map V.int))) ?_ ?_ ?_⟩
      · refine ⟨x11, x12, rfl, sm.trans s3, s3 _ _ et, ?_⟩
        rw [s3 _ _ el]
        show _ = some (HO.lst (((pre ++ []).filter (okB A nn)).map V.int))
        rw [List.append_nil]
      · rintro j σ H3 hj ⟨y11, y12, rfl, sm3, et3, el3⟩
        have hj' : j < (mlI ((12 * y + m - 1 + -back) / 12) ((12 * y + m - 1 + -back) % 12 + 1) + 1 - 1).toNat := hj
        rw [em] at hj'
        have nm := filter_more (p := okB A nn) pre (mst (12 * y + m - 1 + -back) + 1) j
        have eb : mst (12 * y + m - 1 + -back) + 1 + (j : Int) = dayI ((12 * y + m - 1 + -back) / 12) ((12 * y + m - 1 + -back) % 12 + 1) (1 + (j : Int)) := by
          rw [ed]
          omega
        rw [eb] at nm
        walk_at "ag rd"
        refine ⟨h11, h12, fun H4 s4 => ?_⟩
        generalize dayI ((12 * y + m - 1 + -back) / 12) ((12 * y + m - 1 + -back) % 12 + 1) (1 + (j : Int)) = b at nm
        have el4 := s4 _ _ el3
        have et4 := s4 _ _ et3
        walk_at "ag rd"
        refine of_bool (fun z => ?_) (fun z => ?_)
        · have z' : 1 ≤ b ∧ b ≤ 73049 := by
            unfold isDayI at z
            simpa using z
          walk_at "ag rd"
          refine ⟨b.toNat, A, by omega, by omega, by omega, (sm3.trans s4).seq hS, fun H5 s5 => ?_⟩
          have el5 := s5 _ _ el4
          have et5 := s5 _ _ et4
          walk_at "ag rd"
          refine of_eqI (fun r => ?_) (fun r => ?_)
          · rw [okB_yes z'.1 z'.2 r, if_pos rfl] at nm
            walk_at "ag rd"
            refine ⟨.inl ⟨rfl, _, SqL.of el5⟩, ?_⟩
            walk_at "ag rd"
            refine ⟨l, _, _, rfl, rfl, el5, ?_, ?_⟩
            · rw [List.length_map]
              refine small _ ?_
              have := List.length_filter_le (okB A nn) (pre ++ seg (mst (12 * y + m - 1 + -back) + 1) j)
              rw [List.length_append, seg_len] at this
              omega
            · refine ⟨_, _, rfl, ((sm3.trans s4).trans s5).chg nl, ?_, ?_⟩
              · rw [upd_ne (Ne.symm nlt)]
                exact et5
              · rw [upd_same, nm, List.map_append]
                rfl
          · rw [okB_no r, if_neg (by decide), List.append_nil] at nm
            refine ⟨_, _, rfl, (sm3.trans s4).trans s5, et5, ?_⟩
            rw [nm]
            exact el5
        · have z' : ¬ (1 ≤ b ∧ b ≤ 73049) := by
            unfold isDayI at z
            simpa using z
          rw [okB_far z', if_neg (by decide), List.append_nil] at nm
          refine ⟨_, _, rfl, sm3.trans s4, et4, ?_⟩
          rw [nm]
          exact el4
      · rintro σ H3 ⟨y11, y12, rfl, sm3, et3, el3⟩
        refine ⟨_, _, _, _, _, rfl, sm3, et3, ?_⟩
        rw [el3, stp]
        have en : (mlI ((12 * y + m - 1 + -back) / 12) ((12 * y + m - 1 + -back) % 12 + 1) + 1 - 1).toNat = (mln (12 * y + m - 1 + -back)).toNat := by
          rw [em]
          omega
        rw [← en]
    · rintro σ H' ⟨x8, x9, x10, x11, x12, rfl, sm, et, el⟩
      walk_at "ag rd"
      refine q H' l sm nl ?_
      have be := births_eq (a := A) h1 h2 (t := 12 * y + m - 1) (by have := hd.t; omega) (by have := hd.t; have := mst_succ (12 * y + m - 1); omega)
      rw [← be]
      exact el

abbrev s_race : Stmt := topS 33
abbrev N_race : List Str := ["lo", "hi", "age", "other", "sooner", "together", "later", "b", "first", "second"]
theorem sc_race : FnScope N_race ["lo", "hi", "age", "other"] (defScope s_race) := ⟨rfl, rfl, rfl, by decide +kernel, rfl, by decide +kernel, by decide +kernel⟩
/-- of so many births from lo on those of whom which says k -/
def wh (A C : Age) (k lo n : Nat) : List Nat := ((List.range n).map fun (i : Nat) => lo + i).filter fun (b : Nat) => AgeSpec.which A C b == some k
theorem wh_more (A C : Age) (k lo n : Nat) : wh A C k lo (n + 1) = wh A C k lo n ++ (if (AgeSpec.which A C (lo + n) == some k) = true then [lo + n] else []) := by
  unfold wh
  rw [List.range_succ, List.map_append, List.filter_append, show List.map (fun (i : Nat) => lo + i) [n] = [lo + n] from rfl, List.filter_cons, List.filter_nil]
theorem wh_len (A C : Age) (k lo n : Nat) : (wh A C k lo n).length ≤ n := by
  unfold wh
  refine Nat.le_trans (List.length_filter_le _ _) ?_
  rw [List.length_map, List.length_range]
  exact Nat.le_refl _
abbrev nats (l : List Nat) : List V := l.map fun (x : Nat) => V.int (x : Nat)
theorem nats_app (l r : List Nat) : nats (l ++ r) = nats l ++ nats r := List.map_append
theorem on_pos {A : Age} {b x : Nat} (h : A.on b = some x) : 1 ≤ x := by
  by_cases c : 1 ≤ b ∧ b ≤ 73049
  · rw [on_eq c.1 c.2] at h
    split at h
    · have := Option.some.inj h
      omega
    · cases h
  · rw [on_out c] at h
    cases h
theorem out_zero {A : Age} {b : Nat} : AgeSpec.dayOut (A.on b) = 0 ↔ A.on b = none := by
  cases h : A.on b with
  | none => exact ⟨fun _ => rfl, fun _ => rfl⟩
  | some x =>
    have := on_pos h
    refine ⟨fun z => ?_, fun z => by cases z⟩
    have z' : ((x : Nat) : Int) = 0 := z
    omega
/-- behind j births -/
structure RaceAt (A C : Age) (ln : Nat) (p0 p1 p2 : Addr) (H : Hp) (j : Nat) (H' : Hp) : Prop where
  same : Same H H'
  at0 : H' p0 = some (.lst (nats (wh A C 0 ln j)))
  at1 : H' p1 = some (.lst (nats (wh A C 1 ln j)))
  at2 : H' p2 = some (.lst (nats (wh A C 2 ln j)))
section
variable {A C : Age} {ln : Nat} {p0 p1 p2 : Addr} {H H' H2 : Hp} {j : Nat}
theorem RaceAt.on (s : RaceAt A C ln p0 p1 p2 H j H') (t : Same H' H2) : RaceAt A C ln p0 p1 p2 H j H2 := ⟨s.same.trans t, t _ _ s.at0, t _ _ s.at1, t _ _ s.at2⟩
theorem wh_same {k : Nat} {r : Option Nat} (e : AgeSpec.which A C (ln + j) = r) (h : ¬ r = some k) : wh A C k ln (j + 1) = wh A C k ln j := by
  have q : (AgeSpec.which A C (ln + j) == some k) = false := by
    rw [e]
    exact beq_eq_false_iff_ne.mpr h
  rw [wh_more, q, if_neg (by decide), List.append_nil]
theorem wh_add {k : Nat} (e : AgeSpec.which A C (ln + j) = some k) : wh A C k ln (j + 1) = wh A C k ln j ++ [ln + j] := by
  have q : (AgeSpec.which A C (ln + j) == some k) = true := by
    rw [e]
    exact beq_self_eq_true _
  rw [wh_more, q, if_pos rfl]
theorem RaceAt.none (s : RaceAt A C ln p0 p1 p2 H j H') (e : AgeSpec.which A C (ln + j) = Option.none) : RaceAt A C ln p0 p1 p2 H (j + 1) H' :=
  ⟨s.same, by rw [wh_same e (by decide)]; exact s.at0, by rw [wh_same e (by decide)]; exact s.at1, by rw [wh_same e (by decide)]; exact s.at2⟩
theorem RaceAt.add0 (s : RaceAt A C ln p0 p1 p2 H j H') (e : AgeSpec.which A C (ln + j) = some 0) (g : H p0 = Option.none) (n1 : p0 ≠ p1) (n2 : p0 ≠ p2) : RaceAt A C ln p0 p1 p2 H (j + 1) (upd H' p0 (.lst (nats (wh A C 0 ln j ++ [ln + j])))) :=
  ⟨s.same.chg g, by rw [upd_same, wh_add e], by rw [upd_ne (Ne.symm n1), wh_same e (by decide)]; exact s.at1, by rw [upd_ne (Ne.symm n2), wh_same e (by decide)]; exact s.at2⟩
theorem RaceAt.add1 (s : RaceAt A C ln p0 p1 p2 H j H') (e : AgeSpec.which A C (ln + j) = some 1) (g : H p1 = Option.none) (n1 : p0 ≠ p1) (n2 : p1 ≠ p2) : RaceAt A C ln p0 p1 p2 H (j + 1) (upd H' p1 (.lst (nats (wh A C 1 ln j ++ [ln + j])))) :=
  ⟨s.same.chg g, by rw [upd_ne n1, wh_same e (by decide)]; exact s.at0, by rw [upd_same, wh_add e], by rw [upd_ne (Ne.symm n2), wh_same e (by decide)]; exact s.at2⟩
theorem RaceAt.add2 (s : RaceAt A C ln p0 p1 p2 H j H') (e : AgeSpec.which A C (ln + j) = some 2) (g : H p2 = Option.none) (n1 : p0 ≠ p2) (n2 : p1 ≠ p2) : RaceAt A C ln p0 p1 p2 H (j + 1) (upd H' p2 (.lst (nats (wh A C 2 ln j ++ [ln + j])))) :=
  ⟨s.same.chg g, by rw [upd_ne n1, wh_same e (by decide)]; exact s.at0, by rw [upd_ne n2, wh_same e (by decide)]; exact s.at1, by rw [upd_same, wh_add e]⟩
end
def sp_race (K : PySem.W.Frag) : Sp := sIIRR fun lo hi a c H Q _ => ∃ (ln hn : Nat) (A C : Age), lo = (ln : Int) ∧ hi = (hn : Int) ∧ 1 ≤ ln ∧ ln ≤ hn ∧ hn ≤ 73049 ∧ hn < ln + 2000 ∧ SqL K H a ((AgeSpec.ageNums A).map V.int) ∧ SqL K H c ((AgeSpec.ageNums C).map V.int) ∧
  ∀ H' r p0 p1 p2, Same H H' → H r = none → H p0 = none → H p1 = none → H p2 = none → H' r = some (.lst [.ref p0, .ref p1, .ref p2]) → H' p0 = some (.lst (nats (wh A C 0 ln (hn + 1 - ln)))) → H' p1 = some (.lst (nats (wh A C 1 ln (hn + 1 - ln)))) → H' p2 = some (.lst (nats (wh A C 2 ln (hn + 1 - ln)))) → Q (.ref r) H'
theorem ok_race (T : Txt K mg aL aT aH) (D : Dfn K mg "race" s_race) (C_day_reached : Cal P w K mg base CX0 7 "day_reached" (sp_day_reached K)) : Cal P w K mg base CX0 8 "race" (sp_race K) := by
  refine cal0 D sc_race lIIRR (fun _ _ _ _ _ _ us hl => match us, hl with | [_, _, _, _], _ => rfl) fun f cdv A outer s H vs Q E hr h => ?_
  obtain ⟨lo, hi, a, c, rfl, ln, hn, A, C, rfl, rfl, h1, h2, h3, h4, hA, hC, q⟩ := h
  refine ⟨_, (pss_cons (ps_par3 (i := 4) (j := 5) (l := 6) (by rfl) sc_race.nd rfl rfl rfl (by decide) (by decide) (by decide) rfl rfl rfl (pa_cons (pe_lst pa_nil) (pa_cons (pe_lst pa_nil) (pa_cons (pe_lst pa_nil) pa_nil))) (by rfl))
    (pss_cons (ps_for PassesOwn.never rfl (pi_range2 rfl T.fr.n_range (pa_cons (pv 0) (pa_cons (pe_op op_add (pv 1) pe_int) pa_nil))) (pg_name (i := 7) sc_race.nd rfl (Or.inl rfl))
    (pss_cons (ps_par (i := 8) (j := 9) (by rfl) sc_race.nd rfl rfl (by decide) rfl rfl (pa_cons (pe_f C_day_reached hr (by decide) (pa_cons (pv 7) (pa_cons (pv 2) pa_nil))) (pa_cons (pe_f C_day_reached hr (by decide) (pa_cons (pv 7) (pa_cons (pv 3) pa_nil))) pa_nil)) (by rfl))
    (pss_cons (ps_if (PW.pt (pw_or (pt_cmpR op_eq (pv 8) pe_int (nomark _)) (pw_or1 (pt_cmpR op_eq (pv 9) pe_int (nomark _))))) (pss_one ps_continue) pss_nil)
    (pss_one (ps_if (pt_cmpR op_lt (pv 8) (pv 9) (nomark _)) (pss_one (ps_expr (pe_bm PySem.F.plainAttrs_list PySem.F.slot_list_append PySem.F.type_list_append mt_append (pv 4) (pa_cons (pv 7) pa_nil)))) (pss_one (ps_if (pt_cmpR op_eq (pv 8) (pv 9) (nomark _)) (pss_one (ps_expr (pe_bm PySem.F.plainAttrs_list PySem.F.slot_list_append PySem.F.type_list_append mt_append (pv 5) (pa_cons (pv 7) pa_nil)))) (pss_one (ps_expr (pe_bm PySem.F.plainAttrs_list PySem.F.slot_list_append PySem.F.type_list_append mt_append (pv 6) (pa_cons (pv 7) pa_nil)))))))))))
    (pss_one (ps_ret (pe_lst (pa_cons (pv 4) (pa_cons (pv 5) (pa_cons (pv 6) pa_nil)))))))), ?_⟩
  walk_at "ag rd"
  refine ⟨Nat.zero_le _, fun p0 f0 => ?_⟩
  walk_at "ag rd"
  refine ⟨Nat.zero_le _, fun p1 f1 => ?_⟩
  walk_at "ag rd"
  refine ⟨Nat.zero_le _, fun p2 f2 => ?_⟩
  have g0 : H p0 = none := f0
  have s1 := same_new (o := .lst []) f0
  have g1 : H p1 = none := s1.free f1
  have s2 := s1.new (o := .lst []) f1
  have g2 : H p2 = none := s2.free f2
  have s3 := s2.new (o := .lst []) f2
  have n01 : p0 ≠ p1 := ne_of_none (upd_same (H := H) (a := p0) (o := .lst [])) f1
  have n02 : p0 ≠ p2 := ne_of_none (show upd (upd H p0 (.lst [])) p1 (.lst []) p0 = some (.lst []) by rw [upd_ne n01, upd_same]) f2
  have n12 : p1 ≠ p2 := ne_of_none (upd_same (H := upd H p0 (.lst [])) (a := p1) (o := .lst [])) f2
  refine ⟨_, _, _, rfl, ?_⟩
  walk_at "ag rd"
  refine ⟨⟨by omega, by omega, by omega, by omega⟩, for_range (lo := (ln : Int))
    (fun j σ H' => ∃ x7 x8 x9, σ = [some (.int ln), some (.int hn), some (.ref a), some (.ref c), some (.ref p0), some (.ref p1), some (.ref p2), x7, x8, x9] ∧ RaceAt A C ln p0 p1 p2 H j H')
    ⟨none, none, none, rfl, s3, ?_, ?_, ?_⟩ ?_ ?_⟩
  · rw [upd_ne n02, upd_ne n01, upd_same]; rfl
  · rw [upd_ne n12, upd_same]; rfl
  · rw [upd_same]; rfl
  · rintro j σ H' hj ⟨x7, x8, x9, rfl, st⟩
    have hj' : j < ((hn : Int) + 1 - ln).toNat := hj
    have eb : (ln : Int) + (j : Int) = ((ln + j : Nat) : Int) := by omega
    have lb : 1 ≤ ln + j ∧ ln + j ≤ 73049 := by omega
    have w0 := wh_more A C 0 ln j
    have w1 := wh_more A C 1 ln j
    have w2 := wh_more A C 2 ln j
    have l0 := wh_len A C 0 ln j
    have l1 := wh_len A C 1 ln j
    have l2 := wh_len A C 2 ln j
    -- what is appended
    have ap : ∀ (l : List Nat), nats l ++ [V.int ((ln : Int) + (j : Int))] = nats (l ++ [ln + j]) := fun l => by
      rw [nats_app, eb]
      rfl
    walk_at "ag rd"
    refine ⟨ln + j, A, eb, lb.1, lb.2, st.same.seq hA, fun H1 t1 => ?_⟩
    walk_at "ag rd"
    refine ⟨ln + j, C, eb, lb.1, lb.2, (st.same.trans t1).seq hC, fun H2 t2 => ?_⟩
    have st2 := st.on (t1.trans t2)
    refine ⟨_, _, rfl, ?_⟩
    walk_at "ag rd"
    refine of_eqI (fun z => ?_) (fun z => ?_)
    · rw [out_zero] at z
      have ew : AgeSpec.which A C (ln + j) = none := by
        unfold AgeSpec.which
        rw [z]
      exact ⟨_, _, _, rfl, st2.none ew⟩
    walk_at "ag rd"
    refine of_eqI (fun z2 => ?_) (fun z2 => ?_)
    · rw [out_zero] at z2
      have ew : AgeSpec.which A C (ln + j) = none := by
        unfold AgeSpec.which
        rw [z2]
        cases A.on (ln + j) <;> rfl
      exact ⟨_, _, _, rfl, st2.none ew⟩
    obtain ⟨u, hu⟩ : ∃ u, A.on (ln + j) = some u := by
      cases h : A.on (ln + j) with
      | none => exact absurd (out_zero.mpr h) z
      | some u => exact ⟨u, rfl⟩
    obtain ⟨v, hv⟩ : ∃ v, C.on (ln + j) = some v := by
      cases h : C.on (ln + j) with
      | none => exact absurd (out_zero.mpr h) z2
      | some v => exact ⟨v, rfl⟩
    have eu : AgeSpec.dayOut (A.on (ln + j)) = (u : Int) := by rw [hu]; rfl
    have ev : AgeSpec.dayOut (C.on (ln + j)) = (v : Int) := by rw [hv]; rfl
    have ew : AgeSpec.which A C (ln + j) = some (if u < v then 0 else if u = v then 1 else 2) := by
      unfold AgeSpec.which
      rw [hu, hv]
    rw [eu, ev]
    walk_at "ag rd"
    refine of_decide (fun y => ?_) (fun y => ?_)
    · rw [if_pos (show u < v by omega)] at ew
      walk_at "ag rd"
      refine ⟨.inl ⟨rfl, _, SqL.of st2.at0⟩, ?_⟩
      walk_at "ag rd"
      refine ⟨p0, _, _, rfl, rfl, st2.at0, by rw [List.length_map]; exact small _ (by omega), ?_⟩
      refine ⟨_, _, _, rfl, ?_⟩
      rw [ap]
      exact st2.add0 ew g0 n01 n02
    · rw [if_neg (show ¬ u < v by omega)] at ew
      walk_at "ag rd"
      refine of_eqI (fun y2 => ?_) (fun y2 => ?_)
      · rw [if_pos (show u = v by omega)] at ew
        walk_at "ag rd"
        refine ⟨.inl ⟨rfl, _, SqL.of st2.at1⟩, ?_⟩
        walk_at "ag rd"
        refine ⟨p1, _, _, rfl, rfl, st2.at1, by rw [List.length_map]; exact small _ (by omega), ?_⟩
        refine ⟨_, _, _, rfl, ?_⟩
        rw [ap]
        exact st2.add1 ew g1 n01 n12
      · rw [if_neg (show ¬ u = v by omega)] at ew
        walk_at "ag rd"
        refine ⟨.inl ⟨rfl, _, SqL.of st2.at2⟩, ?_⟩
        walk_at "ag rd"
        refine ⟨p2, _, _, rfl, rfl, st2.at2, by rw [List.length_map]; exact small _ (by omega), ?_⟩
        refine ⟨_, _, _, rfl, ?_⟩
        rw [ap]
        exact st2.add2 ew g2 n02 n12
  · rintro σ H' ⟨x7, x8, x9, rfl, st⟩
    have en : ((hn : Int) + 1 - ln).toNat = hn + 1 - ln := by omega
    rw [en] at st
    walk_at "ag rd"
    refine ⟨small' _ (by show 3 ≤ 16777216; decide), fun r hr => ?_⟩
    refine q _ r p0 p1 p2 (st.same.new hr) (st.same.free hr) g0 g1 g2 upd_same ?_ ?_ ?_
    · rw [upd_ne (ne_of_none st.at0 hr)]; exact st.at0
    · rw [upd_ne (ne_of_none st.at1 hr)]; exact st.at1
    · rw [upd_ne (ne_of_none st.at2 hr)]; exact st.at2
end
end Ag

/-! for a, b in zip(a list, a tuple). -/
namespace Ag
open PySem PySem.Spec PyProof.Rows L2
/-- where the cells of a zip lie: five new ones behind all that stood at its making -/
structure Five (z ti out i1 i2 a b : Addr) : Prop where
  e1 : i2 = i1 + 1
  e2 : ti = i1 + 2
  e3 : out = i1 + 3
  e4 : z = i1 + 4
  la : a < i1
  lb : b < i1
theorem Five.sep {z ti out i1 i2 a b : Addr} (F : Five z ti out i1 i2 a b) : ZipSep2 z ti out i1 i2 [i1, a] [i2, b] := by
  obtain ⟨e1, e2, e3, e4, la, lb⟩ := F
  have fact : ∀ (i1 a b : Nat), a < i1 → b < i1 → (i1 + 2 ≠ i1 + 4 ∧ i1 + 3 ≠ i1 + 4 ∧ i1 + 2 ≠ i1 + 3 ∧ i1 + 2 ≠ i1 ∧ i1 + 2 ≠ i1 + 1) ∧ (i1 + 4 ≠ i1 ∧ i1 + 4 ≠ a) ∧ (i1 + 3 ≠ i1 ∧ i1 + 3 ≠ a) ∧ (i1 + 4 ≠ i1 + 1 ∧ i1 + 4 ≠ b) ∧ (i1 + 3 ≠ i1 + 1 ∧ i1 + 3 ≠ b) ∧ (i1 ≠ i1 + 1 ∧ i1 ≠ b) ∧ (i1 + 1 ≠ i1 ∧ i1 + 1 ≠ a) := by
    intro i1 a b h1 h2
    refine ⟨⟨by omega, by omega, by omega, by omega, by omega⟩, ⟨by omega, by omega⟩, ⟨by omega, by omega⟩, ⟨by omega, by omega⟩, ⟨by omega, by omega⟩, ⟨by omega, by omega⟩, by omega, by omega⟩
  obtain ⟨⟨p1, p2, p3, p4, p5⟩, q1, q2, q3, q4, q5, q6⟩ := fact i1 a b la lb
  have no : ∀ {x u v : Addr}, x ≠ u ∧ x ≠ v → x ∉ [u, v] := fun {x u v} h m => by
    rcases List.mem_cons.mp m with e | m
    · exact h.1 e
    · exact h.2 (List.mem_singleton.mp m)
  subst e1 e2 e3 e4
  exact ⟨p1, p2, p3, p4, List.mem_cons_self .., no q1, no q2, p5, List.mem_cons_self .., no q3, no q4, no q5, no q6⟩
/-- the list at a and the tuple at b as they stand at each turn, the items in new pairs -/
def Itm (K : PySem.W.Frag) (a b : Addr) : It where
  go := fun i H => ∃ (xs ys : List V) (x y : V), (SqL K H a xs ∧ SqT K H b ys) ∧ xs[i]? = some x ∧ ys[i]? = some y
  yld := fun i H v H' => ∃ T x y, (v = .ref T ∧ H T = none ∧ H' = upd H T (.tup [x, y])) ∧ (∀ xs, SqL K H a xs → xs[i]? = some x) ∧ ∀ ys, SqT K H b ys → ys[i]? = some y
  stop := fun i H => ∃ xs ys : List V, (SqL K H a xs ∧ SqT K H b ys) ∧ i = min xs.length ys.length
/-- the iterators' state at turn i -/
def zst (z ti out i1 i2 a b : Addr) (i : Nat) (h : Heap) : Prop := IsZip h z ti out .none ∧ IsTupOf2 h ti (.ref i1) (.ref i2) ∧ (∃ x y, IsTupOf2 h out x y) ∧ h.IsListIter i1 a i ∧ h.IsTupleIter i2 b i
theorem in5 {c z ti out i1 i2 : Addr} (h : c ∈ [z, ti, out, i1, i2]) : c = z ∨ c = ti ∨ c = out ∨ c = i1 ∨ c = i2 := by simpa using h
theorem out5 {c z ti out i1 i2 : Addr} (h : c ∉ [z, ti, out, i1, i2]) : c ≠ z ∧ c ≠ out ∧ c ≠ i1 ∧ c ≠ i2 := by
  simp only [List.mem_cons, not_or] at h
  exact ⟨h.1, h.2.2.1, h.2.2.2.1, h.2.2.2.2.1⟩
theorem turn_mix {P : Program} {w : World} {K : PySem.W.Frag} {elts : List Expr} {kk : Nat} {tpos : Pos} {a b z ti out i1 i2 : Addr} (F : Five z ti out i1 i2 a b) :
    Turn P w K (.Tuple elts kk tpos) (Itm K a b) [z, ti, out, i1, i2] z (zst z ti out i1 i2 a b) where
  mem := List.mem_cons_self ..
  obj := fun i h st c hc => by
    obtain ⟨hz, ht, ⟨x, y, ho⟩, ⟨o1, h1, _, d1⟩, ⟨o2, h2, _, d2⟩⟩ := st
    rcases in5 hc with rfl | rfl | rfl | rfl | rfl
    · exact ⟨_, hz, fun _ q => Data.noConfusion q⟩
    · exact ⟨_, ht, fun _ q => Data.noConfusion q⟩
    · exact ⟨_, ho, fun _ q => Data.noConfusion q⟩
    · exact ⟨o1, h1, fun _ q => by rw [d1] at q; cases q⟩
    · exact ⟨o2, h2, fun _ q => by rw [d2] at q; cases q⟩
  keep := fun i h h' st k => by
    obtain ⟨hz, ht, ⟨x, y, ho⟩, h1, h2⟩ := st
    refine ⟨k z ?_ _ hz, k ti ?_ _ ht, ⟨x, y, k out ?_ _ ho⟩, h1.at fun o q => k i1 ?_ o q, h2.at fun o q => k i2 ?_ o q⟩ <;> simp
  item := by
    intro X eP ew eK hc i pins s σ H E I hf st hg
    subst eP ew eK
    obtain ⟨hz, ht, ⟨x0, y0, ho⟩, h1, h2⟩ := st
    obtain ⟨xs, ys, x, y, ⟨hqx, hqy⟩, hx, hy⟩ := hg
    obtain ⟨ix, rx, px, _⟩ := I.list hqx
    obtain ⟨iy, ry, py, _⟩ := I.tuple hqy
    obtain ⟨u, hu, ru⟩ := rx.get hx
    obtain ⟨v, hv, rv⟩ := ry.get hy
    have hh := I.ok.hd hc
    have na : a ≠ i1 := Nat.ne_of_lt F.la
    have nb : b ≠ i2 := fun e => by
      have q : b < i1 := F.lb
      rw [e, F.e1] at q
      exact absurd (Nat.lt_of_succ_lt q) (Nat.lt_irrefl _)
    have D1 := Draws.list (prog := X.prog) (w := X.w) (A := X.A.in1) hh i1 a na ix.toArray
    have D2 := Draws.tuple (prog := X.prog) (w := X.w) (A := X.A.in1) hh i2 b nb iy.toArray
    have l1 : i < ix.toArray.size := by rw [List.size_toArray]; exact (List.getElem?_eq_some_iff.mp hu).1
    have l2 : i < iy.toArray.size := by rw [List.size_toArray]; exact (List.getElem?_eq_some_iff.mp hv).1
    have zl : z < s.heap.objs.size := Heap.lt_size hz
    refine wpAny_pyNext_zipD2_item F.sep D1 D2 hz ht ho ⟨h1, px.isList⟩ ⟨h2, (show s.heap.IsTuple b iy.toArray from py)⟩ l1 l2 fun g1 g2 h' tk q1 q2 z' o' s1 s2 new _ kept => ?_
    have eu : g1 = u := by
      have q : ix.toArray[i]? = some g1 := q1
      rw [List.getElem?_toArray, hu] at q
      exact (Option.some.inj q).symm
    have ev : g2 = v := by
      have q : iy.toArray[i]? = some g2 := q2
      rw [List.getElem?_toArray, hv] at q
      exact (Option.some.inj q).symm
    subst eu ev
    refine ⟨_, rfl, wpAny_letOwnedTupleGo_zip (s := { s with heap := h', toks := tk }) z' fun h'' z'' sb => ?_⟩
    have hT : h''.get? s.heap.objs.size = some { cls := .type "tuple", data := .seq #[g1, g2] } := (sb.2 _ (Nat.ne_of_gt zl)).trans new
    have stay : ∀ c o, c ∉ [z, ti, out, i1, i2] → s.heap.get? c = some o → h''.get? c = some o := fun c o hcn e => by
      obtain ⟨n1, n2, n3, n4⟩ := out5 hcn
      exact (sb.2 c n1).trans (kept c o n1 n2 n3 n4 e)
    have ob : ObjOk X.prog X.w (upd H s.heap.objs.size (.tup [x, y])) h'' s.heap.objs.size (.tup [x, y]) := ⟨small' 2 (by decide), [g1, g2], .cons ru (.cons rv .nil), ⟨_, hT, rfl, _, rfl⟩⟩
    have J : Inv X pins σ (upd H s.heap.objs.size (.tup [x, y])) { s with heap := h'', toks := tk } := I.turnedNew (t' := tk) stay hf (Nat.le_refl _) ob
    refine ⟨.ref s.heap.objs.size, _, J, rfl, ⟨_, x, y, ⟨rfl, I.hok.fresh (Nat.le_refl _), rfl⟩, fun l hl => ?_, fun l hl => ?_⟩, ⟨z'', ?_, ⟨g1, g2, ?_⟩, s1.1.at fun o q => ?_, s2.1.at fun o q => ?_⟩, fun c hcm => ?_⟩
    · rw [I.list_inj hl hqx]; exact hx
    · rw [I.tuple_inj hl hqy]; exact hy
    · exact (sb.2 _ F.sep.TIz).trans (kept _ _ F.sep.TIz F.sep.TITO F.sep.TIi1 F.sep.TIi2 ht)
    · exact (sb.2 _ F.sep.TOz).trans o'
    · exact (sb.2 _ (Ne.symm F.sep.zi1)).trans q
    · exact (sb.2 _ (Ne.symm F.sep.zi2)).trans q
    · have lt : c < s.heap.objs.size := by
        rcases in5 hcm with rfl | rfl | rfl | rfl | rfl
        · exact zl
        · exact Heap.lt_size ht
        · exact Heap.lt_size ho
        · obtain ⟨_, e, _⟩ := h1; exact Heap.lt_size e
        · obtain ⟨_, e, _⟩ := h2; exact Heap.lt_size e
      rw [upd_ne (Nat.ne_of_lt lt)]
      exact (hf c hcm).1
  done := by
    intro X eP ew eK hc i pins s σ H E I hf st hg
    subst eP ew eK
    obtain ⟨hz, ht, ⟨x0, y0, ho⟩, h1, h2⟩ := st
    obtain ⟨xs, ys, ⟨hqx, hqy⟩, hi⟩ := hg
    obtain ⟨ix, rx, px, _⟩ := I.list hqx
    obtain ⟨iy, ry, py, _⟩ := I.tuple hqy
    have hh := I.ok.hd hc
    have na : a ≠ i1 := Nat.ne_of_lt F.la
    have nb : b ≠ i2 := fun e => by
      have q : b < i1 := F.lb
      rw [e, F.e1] at q
      exact absurd (Nat.lt_of_succ_lt q) (Nat.lt_irrefl _)
    have D1 := Draws.list (prog := X.prog) (w := X.w) (A := X.A.in1) hh i1 a na ix.toArray
    have D2 := Draws.tuple (prog := X.prog) (w := X.w) (A := X.A.in1) hh i2 b nb iy.toArray
    have n1 : ix.toArray.size = xs.length := by rw [List.size_toArray, rx.length]
    have n2 : iy.toArray.size = ys.length := by rw [List.size_toArray, ry.length]
    refine wpAny_pyNext_zipD2_end F.sep D1 D2 hz ht ho ⟨h1, px.isList⟩ ⟨h2, (show s.heap.IsTuple b iy.toArray from py)⟩ (by omega) (by omega) (by omega) fun h' tk kept => ?_
    refine ⟨rfl, I.turnedL (t' := tk) (ch := [z, ti, out, i1, i2]) (fun c o hcn e => ?_) hf⟩
    obtain ⟨m1, m2, m3, m4⟩ := out5 hcn
    exact kept c o m1 m2 m3 m4 e
  self := fun A i s Q E st h => wpAny_pyIter_zip st.1 h
def iMix (K : PySem.W.Frag) (ta : TA) : TI := fun σ H R => ta σ H fun vs H1 => ∃ a b xs ys, vs = [.ref a, .ref b] ∧ (SqL K H1 a xs ∧ SqT K H1 b ys) ∧ R (Itm K a b) H1
theorem pi_zipM {X : Cx} {e e2 : Expr} {ta : TA} {p pos tpos : Pos} {elts : List Expr} {kk : Nat} (hg : Gl X "zip") (hm : X.mg "zip" = none) (ha : PA X [e, e2] ta)
    (hs : starEach [e, e2] X.env = (false, eval e X.env) :: starEach [e2] X.env := by rfl) (hpl : (backTo pos (starEach [e2] X.env)).any (·.1) = false := by rfl) :
    PI X (.Tuple elts kk tpos) (.Call (.Name "zip" p) [e, e2] [] pos) (iMix X.K ta) := by
  refine ⟨fun pins s σ H R I h => Call_ (ld_blt I hg hm PyProof.Rows.boot_zip (PyProof.Rows.callWith_type1 (thn (ha.run pos pins s σ H _ I h) fun us s1 hh => ?_) hs hpl))⟩
  obtain ⟨vs, H1, I1, r1, a, b, xs, ys, rfl, ⟨hqx, hqy⟩, q⟩ := hh
  cases r1 with
  | cons ra rr =>
    cases rr with
    | cons rb rr =>
      cases rr
      cases ra
      cases rb
      obtain ⟨ix, rx, px, _⟩ := I1.list hqx
      obtain ⟨iy, ry, py, _⟩ := I1.tuple hqy
      have py' : s1.heap.IsTuple b iy.toArray := py
      have lb : b < s1.heap.objs.size := py.lt
      refine zip_begins2 (begins_list a ix.toArray) (begins_tuple b iy.toArray) px.isList py' fun h' hz ht ho g1 g2 _ kept => wpAny_pyIter_zip hz ?_
      have J : Inv X pins σ H1 { s1 with heap := h' } := I1.kept (t' := s1.toks) kept
      refine ⟨s1.heap.objs.size + 4, [s1.heap.objs.size + 4, s1.heap.objs.size + 2, s1.heap.objs.size + 3, s1.heap.objs.size, s1.heap.objs.size + 1], _, _, H1, rfl, J, turn_mix ⟨rfl, rfl, rfl, rfl, px.lt, lb⟩, ⟨hz, ht, ⟨_, _, ho⟩, ⟨_, g1, rfl, rfl⟩, ⟨_, g2, rfl, rfl⟩⟩, fun c hcm => ?_, q⟩
      have le : s1.heap.objs.size ≤ c := by
        rcases in5 hcm with rfl | rfl | rfl | rfl | rfl
        · exact Nat.le_add_right _ 4
        · exact Nat.le_add_right _ 2
        · exact Nat.le_add_right _ 3
        · exact Nat.le_refl _
        · exact Nat.le_add_right _ 1
      exact I1.fpOk le (I1.hok.fresh le)
end Ag

/-! Ages' texts, written. -/
namespace Ag
open PySem PySem.Spec PyProof.Rows L2
open VxDay (Age)
section
variable {P : Program} {w : World} {K : PySem.W.Frag} {mg : Str → Option Value} {base : Heap} {aL aT aH : Addr}
theorem walk_mix {a b : Addr} {xs ys : List V} {n : Nat} (hn : n = min xs.length ys.length) : Walk (Itm K a b) n (fun H => SqL K H a xs ∧ SqT K H b ys) (YPair (fun i => xs[i]?) (fun i => ys[i]?)) := by
  subst hn
  refine ⟨fun i H hi q => ?_, fun H q => ⟨xs, ys, q, rfl⟩, fun i H v H' _ q y => ?_⟩
  · have h1 : i < xs.length := by omega
    have h2 : i < ys.length := by omega
    exact ⟨xs, ys, xs[i], ys[i], q, List.getElem?_eq_getElem h1, List.getElem?_eq_getElem h2⟩
  · obtain ⟨T, x, z, ⟨e1, e2, e3⟩, e4, e5⟩ := y
    exact ⟨T, x, z, e1, e2, e3, e4 xs q.1, e5 ys q.2⟩

abbrev s_write_age : Stmt := topS 57
abbrev N_write_age : List Str := ["age", "text", "number", "letter"]
theorem sc_write_age : FnScope N_write_age ["age"] (defScope s_write_age) := ⟨rfl, rfl, rfl, by decide +kernel, rfl, by decide +kernel, by decide +kernel⟩
/-- one part more -/
def addI (acc : List Int) (n : Nat) (l : Int) : List Int := if n = 0 then acc else (if 0 < acc.length then acc ++ [43] else acc) ++ (decI n ++ [l])
def partsOf (A : Age) : List (Nat × Int) := [(A.years, 121), (A.months, 109), (A.weeks, 119), (A.days, 100)]
def wr4 (A : Age) (i : Nat) : List Int := ((partsOf A).take i).foldl (fun acc p => addI acc p.1 p.2) []
def writeI (A : Age) : List Int := if (wr4 A 4).length = 0 then [48, 100] else if A.less = 0 then wr4 A 4 else wr4 A 4 ++ ([45] ++ decI A.less ++ [100])
theorem dec_len {n : Nat} (h : n ≤ 9999) : (decI n).length ≤ 4 := by
  unfold decI
  rw [List.length_map]
  exact digits_len h
theorem add_len {acc : List Int} {n : Nat} {l : Int} (h : n ≤ 9999) : (addI acc n l).length ≤ acc.length + 6 := by
  unfold addI
  have := dec_len h
  split
  · omega
  · split
    · simp only [List.length_append, List.length_cons, List.length_nil]; omega
    · simp only [List.length_append, List.length_cons, List.length_nil]; omega
structure Okp (A : Age) : Prop where
  y : A.years ≤ 9999
  m : A.months ≤ 9999
  w : A.weeks ≤ 9999
  d : A.days ≤ 9999
  s : A.less ≤ 9999
theorem wr_next {A : Age} {i n : Nat} {l : Int} (h : (partsOf A)[i]? = some (n, l)) : wr4 A (i + 1) = addI (wr4 A i) n l := by
  unfold wr4
  rw [take_more h, List.foldl_append]
  rfl
theorem part_le {A : Age} (h : Okp A) {i n : Nat} {l : Int} (e : (partsOf A)[i]? = some (n, l)) : n ≤ 9999 := by
  have hl : i < 4 := (List.getElem?_eq_some_iff.mp e).1
  have : i = 0 ∨ i = 1 ∨ i = 2 ∨ i = 3 := by omega
  rcases this with rfl | rfl | rfl | rfl
  · have q := (Prod.mk.inj (Option.some.inj e)).1; rw [← q]; exact h.y
  · have q := (Prod.mk.inj (Option.some.inj e)).1; rw [← q]; exact h.m
  · have q := (Prod.mk.inj (Option.some.inj e)).1; rw [← q]; exact h.w
  · have q := (Prod.mk.inj (Option.some.inj e)).1; rw [← q]; exact h.d
theorem part_at {A : Age} {i : Nat} {x z : V} (h1 : ([V.int A.years, .int A.months, .int A.weeks, .int A.days])[i]? = some x) (h2 : ([121, 109, 119, 100].map V.int)[i]? = some z) : ∃ (n : Nat) (l : Int), (partsOf A)[i]? = some (n, l) ∧ x = .int (n : Int) ∧ z = .int l := by
  have hl : i < 4 := (List.getElem?_eq_some_iff.mp h1).1
  have : i = 0 ∨ i = 1 ∨ i = 2 ∨ i = 3 := by omega
  rcases this with rfl | rfl | rfl | rfl
  · exact ⟨_, _, rfl, (Option.some.inj h1).symm, (Option.some.inj h2).symm⟩
  · exact ⟨_, _, rfl, (Option.some.inj h1).symm, (Option.some.inj h2).symm⟩
  · exact ⟨_, _, rfl, (Option.some.inj h1).symm, (Option.some.inj h2).symm⟩
  · exact ⟨_, _, rfl, (Option.some.inj h1).symm, (Option.some.inj h2).symm⟩
theorem wr_len {A : Age} (h : Okp A) : ∀ i : Nat, i ≤ 4 → (wr4 A i).length ≤ 6 * i
  | 0, _ => Nat.le_refl _
  | i + 1, hi => by
    have ih := wr_len h i (by omega)
    have hl : i < (partsOf A).length := by show i < 4; omega
    obtain ⟨n, l, e⟩ : ∃ n l, (partsOf A)[i]? = some (n, l) := ⟨_, _, List.getElem?_eq_getElem hl⟩
    rw [wr_next e]
    have hn := part_le h e
    have := add_len (acc := wr4 A i) (l := l) hn
    omega
def sp_write_age (K : PySem.W.Frag) : Sp := sR fun a H Q _ => ∃ A : Age, Okp A ∧ SqL K H a ((AgeSpec.ageNums A).map V.int) ∧ ∀ H' p, Same H H' → H p = none → H' p = some (.lst ((writeI A).map V.int)) → Q (.ref p) H'
theorem ok_write_age (T : Txt K mg aL aT aH) (D : Dfn K mg "write_age" s_write_age) (C_digits_of : Cal P w K mg base CX0 1 "digits_of" sp_digits_of) : Cal P w K mg base CX0 2 "write_age" (sp_write_age K) := by
  refine cal0 D sc_write_age lR (fun _ _ _ _ _ _ us hl => match us, hl with | [_], _ => rfl) fun f cdv A outer s H vs Q E hr h => ?_
  obtain ⟨a, rfl, A, hA, hS, q⟩ := h
  refine ⟨_, (pss_cons (ps_set (i := 1) sc_write_age.nd rfl (Or.inl rfl) (pe_lst pa_nil))
    (pss_cons (ps_for PassesOwn.never rfl (pi_zipM (by rfl) T.fr.n_zip (pa_cons (pe_slice sl_list (pv 0) (po_some pe_int) (po_some pe_int)) (pa_cons (pe_r T.gT) pa_nil))) (pg_tup (by rfl) (pgs_cons (pg_name (i := 2) sc_write_age.nd rfl (Or.inl rfl)) (pgs_cons (pg_name (i := 3) sc_write_age.nd rfl (Or.inl rfl)) pgs_nil)))
    (pss_one (ps_if (pt_cmpR op_ne (pv 2) pe_int (nomark _)) (pss_cons (ps_if (pt_cmpR op_gt (pe_callB call_len_seq (by rfl) T.fr.n_len (by decide +kernel) (pa_cons (pv 1) pa_nil)) pe_int (nomark _)) (pss_one (ps_expr (pe_bm PySem.F.plainAttrs_list PySem.F.slot_list_append PySem.F.type_list_append mt_append (pv 1) (pa_cons (pe_k T.c_PLUS) pa_nil)))) pss_nil)
    (pss_one (ps_expr (pe_bm PySem.F.plainAttrs_list PySem.F.slot_list_extend PySem.F.type_list_extend mt_extend (pv 1) (pa_cons (pe_op op_cat (pe_f C_digits_of hr (by decide) (pa_cons (pv 2) pa_nil)) (pe_lst (pa_cons (pv 3) pa_nil))) pa_nil))))) pss_nil)))
    (pss_cons (ps_if (pt_cmpR op_eq (pe_callB call_len_seq (by rfl) T.fr.n_len (by decide +kernel) (pa_cons (pv 1) pa_nil)) pe_int (nomark _)) (pss_one (ps_ret (pe_lst (pa_cons (pe_k T.c_ZERO) (pa_cons (pe_k T.c_LETTER_OF_DAYS) pa_nil))))) pss_nil)
    (pss_cons (ps_if (pt_cmpR op_ne (pe_ix ix_list (pv 0) (pe_k T.c_LESS) (fun _ _ => rfl)) pe_int (nomark _)) (pss_one (ps_expr (pe_bm PySem.F.plainAttrs_list PySem.F.slot_list_extend PySem.F.type_list_extend mt_extend (pv 1) (pa_cons (pe_op op_cat (pe_op op_cat (pe_lst (pa_cons (pe_k T.c_HYPHEN) pa_nil)) (pe_f C_digits_of hr (by decide) (pa_cons (pe_ix ix_list (pv 0) (pe_k T.c_LESS) (fun _ _ => rfl)) pa_nil))) (pe_lst (pa_cons (pe_k T.c_LETTER_OF_DAYS) pa_nil))) pa_nil)))) pss_nil)
    (pss_one (ps_ret (pv 1))))))), ?_⟩
  walk_at "ag rd"
  refine ⟨Nat.zero_le _, fun t ht => ?_⟩
  walk_at "ag rd"
  refine ⟨a, _, rfl, (same_new ht).seq hS, fun c hc => ?_⟩
  have ntc : t ≠ c := ne_of_none (upd_same (H := H) (a := t) (o := .lst [])) hc
  have gc : H c = none := (same_new (o := .lst []) ht).free hc
  have s0 : Same H (upd (upd H t (.lst [])) c (.lst [.int A.years, .int A.months, .int A.weeks, .int A.days])) := (same_new (o := .lst []) ht).new hc
  walk_at "ag rd"
  refine ⟨c, aT, [.int A.years, .int A.months, .int A.weeks, .int A.days], [121, 109, 119, 100].map V.int, rfl, ⟨SqL.of upd_same, T.sT _⟩, for_it (walk_mix (n := 4) rfl)
    (fun i σ H' => ∃ x2 x3, σ = [some (.ref a), some (.ref t), x2, x3] ∧ Same H H' ∧ H' t = some (.lst ((wr4 A i).map V.int)) ∧ H' c = some (.lst [.int A.years, .int A.months, .int A.weeks, .int A.days]))
    ⟨none, none, rfl, s0, by rw [upd_ne ntc, upd_same]; rfl, upd_same⟩ (fun i σ H' _ ⟨_, _, _, _, _, e⟩ => ⟨SqL.of e, T.sT _⟩) ?_ ?_⟩
  · rintro i v σ H1 H2 hi ⟨x2, x3, rfl, sm, et, ec⟩ ⟨Tp, x, z, rfl, nT, rfl, hx, hz⟩
    obtain ⟨n, l, ep, rfl, rfl⟩ := part_at hx hz
    have hn := part_le hA ep
    have step := wr_next ep
    have lw := wr_len hA i (by omega)
    have ld := dec_len hn
    generalize hw : wr4 A i = W at *
    refine ⟨Tp, _, rfl, SqT.of upd_same, rfl, _, _, rfl, _, _, rfl, rfl, ?_⟩
    have ntT : t ≠ Tp := ne_of_none et nT
    have ncT : c ≠ Tp := ne_of_none ec nT
    have s1 : Same H (upd H1 Tp (.tup [.int (n : Int), .int l])) := sm.new nT
    have et1 : upd H1 Tp (.tup [.int (n : Int), .int l]) t = some (.lst (W.map V.int)) := by rw [upd_ne ntT]; exact et
    have ec1 : upd H1 Tp (.tup [.int (n : Int), .int l]) c = some (.lst [.int A.years, .int A.months, .int A.weeks, .int A.days]) := by rw [upd_ne ncT]; exact ec
    generalize upd H1 Tp (.tup [.int (n : Int), .int l]) = H2 at *
    -- digits_of(number) + [letter], behind what t holds
    have tail : ∀ (W' : List Int) (H3 : Hp), Same H H3 → H3 t = some (.lst (W'.map V.int)) → H3 c = some (.lst [.int A.years, .int A.months, .int A.weeks, .int A.days]) → W'.length ≤ 100 → addI W n l = W' ++ (decI n ++ [l]) →
        ∀ (p : Addr) (H4 : Hp), Same H3 H4 → H4 p = some (.lst ((decI n).map V.int)) → ∀ q : Addr, H4 q = none → ∀ r : Addr, upd H4 q (.lst [.int l]) r = none →
        (∃ (b : Addr) (zs : List V), V.ref r = .ref b ∧ (upd (upd H4 q (.lst [.int l])) r (.lst ((decI n).map V.int ++ [.int l]))) t = some (.lst (W'.map V.int)) ∧ (upd (upd H4 q (.lst [.int l])) r (.lst ((decI n).map V.int ++ [.int l]))) b = some (.lst zs) ∧ (W'.map V.int).length + zs.length ≤ sizeLine ∧
          Same H (upd (upd (upd H4 q (.lst [.int l])) r (.lst ((decI n).map V.int ++ [.int l]))) t (.lst (W'.map V.int ++ zs))) ∧ (upd (upd (upd H4 q (.lst [.int l])) r (.lst ((decI n).map V.int ++ [.int l]))) t (.lst (W'.map V.int ++ zs))) t = some (.lst ((addI W n l).map V.int)) ∧
          (upd (upd (upd H4 q (.lst [.int l])) r (.lst ((decI n).map V.int ++ [.int l]))) t (.lst (W'.map V.int ++ zs))) c = some (.lst [.int A.years, .int A.months, .int A.weeks, .int A.days])) := by
      intro W' H3 s3 e3 c3 lw' ea p H4 s4 e4 q hq r hr
      have et4 := s4 _ _ e3
      have ec4 := s4 _ _ c3
      have ntq : t ≠ q := ne_of_none et4 hq
      have ncq : c ≠ q := ne_of_none ec4 hq
      have et5 : upd H4 q (.lst [.int l]) t = some (.lst (W'.map V.int)) := by rw [upd_ne ntq]; exact et4
      have ec5 : upd H4 q (.lst [.int l]) c = some (.lst [.int A.years, .int A.months, .int A.weeks, .int A.days]) := by rw [upd_ne ncq]; exact ec4
      have ntr : t ≠ r := ne_of_none et5 hr
      have ncr : c ≠ r := ne_of_none ec5 hr
      refine ⟨r, (decI n).map V.int ++ [.int l], rfl, by rw [upd_ne ntr]; exact et5, upd_same, ?_, (((s3.trans s4).new hq).new hr).chg ht, ?_, ?_⟩
      · refine small' _ ?_
        rw [List.length_append, List.length_map, List.length_map]
        show W'.length + ((decI n).length + 1) ≤ 16777216
        omega
      · rw [upd_same, ea, List.map_append, List.map_append]
        rfl
      · rw [upd_ne (Ne.symm ntc), upd_ne ncr]
        exact ec5
    walk_at "ag rd"
    refine of_neI (fun z0 => ?_) (fun z0 => ?_)
    · have n0 : ¬ n = 0 := by omega
      walk_at "ag rd"
      refine ⟨_, _, rfl, .inl (SqL.of et1), ?_⟩
      walk_at "ag rd"
      rw [ml']
      refine of_decide (fun y => ?_) (fun y => ?_)
      · have ea : addI W n l = (W ++ [43]) ++ (decI n ++ [l]) := by
          unfold addI
          rw [if_neg n0, if_pos (by omega)]
        walk_at "ag rd"
        refine ⟨.inl ⟨rfl, _, SqL.of et1⟩, ?_⟩
        walk_at "ag rd"
        refine ⟨t, _, _, rfl, rfl, et1, by rw [List.length_map]; exact small _ (by omega), ?_⟩
        have s2 := s1.chg (o := .lst (W.map V.int ++ [.int 43])) ht
        have et2 : upd H2 t (.lst (W.map V.int ++ [.int 43])) t = some (.lst ((W ++ [43]).map V.int)) := by
          rw [upd_same, List.map_append]
          rfl
        have ec2 : upd H2 t (.lst (W.map V.int ++ [.int 43])) c = some (.lst [.int A.years, .int A.months, .int A.weeks, .int A.days]) := by
          rw [upd_ne (Ne.symm ntc)]
          exact ec1
        generalize upd H2 t (.lst (W.map V.int ++ [.int 43])) = H3 at *
        walk_at "ag rd"
        refine ⟨.inl ⟨rfl, _, SqL.of et2⟩, ?_⟩
        walk_at "ag rd"
        refine ⟨hn, fun H4 p s4 np e4 => ?_⟩
        walk_at "ag rd"
        refine ⟨small' _ (by show 1 ≤ 16777216; decide), fun b hb => ?_⟩
        refine ⟨p, b, (decI n).map V.int, _, rfl, rfl, ?_, upd_same, ?_, fun r hr => ?_⟩
        · rw [upd_ne (ne_of_none e4 hb)]; exact e4
        · refine small' _ ?_
          rw [List.length_map]
          show (decI n).length + 1 ≤ 16777216
          omega
        obtain ⟨b', zs, eb, h1, h2, h3, h4, h5, h6⟩ := tail (W ++ [43]) H3 s2 et2 ec2 (by rw [List.length_append]; show W.length + 1 ≤ 100; omega) ea p H4 s4 e4 b hb r hr
        refine ⟨t, b', _, zs, rfl, by rw [← eb], h1, h2, h3, ?_⟩
        rw [step]
        exact ⟨_, _, rfl, h4, h5, h6⟩
      · have ea : addI W n l = W ++ (decI n ++ [l]) := by
          unfold addI
          rw [if_neg n0, if_neg (by omega)]
        walk_at "ag rd"
        refine ⟨.inl ⟨rfl, _, SqL.of et1⟩, ?_⟩
        walk_at "ag rd"
        refine ⟨hn, fun H4 p s4 np e4 => ?_⟩
        walk_at "ag rd"
        refine ⟨small' _ (by show 1 ≤ 16777216; decide), fun b hb => ?_⟩
        refine ⟨p, b, (decI n).map V.int, _, rfl, rfl, ?_, upd_same, ?_, fun r hr => ?_⟩
        · rw [upd_ne (ne_of_none e4 hb)]; exact e4
        · refine small' _ ?_
          rw [List.length_map]
          show (decI n).length + 1 ≤ 16777216
          omega
        obtain ⟨b', zs, eb, h1, h2, h3, h4, h5, h6⟩ := tail W H2 s1 et1 ec1 (by omega) ea p H4 s4 e4 b hb r hr
        refine ⟨t, b', _, zs, rfl, by rw [← eb], h1, h2, h3, ?_⟩
        rw [step]
        exact ⟨_, _, rfl, h4, h5, h6⟩
    · have ea : addI W n l = W := by
        unfold addI
        rw [if_pos (by omega)]
      rw [step, ea]
      exact ⟨_, _, rfl, s1, et1, ec1⟩
  · rintro σ H1 ⟨x2, x3, rfl, sm, et, ec⟩
    have lw := wr_len hA 4 (by decide)
    have ls := dec_len hA.s
    unfold writeI at q
    generalize hw : wr4 A 4 = W at *
    walk_at "ag rd"
    refine ⟨_, _, rfl, .inl (SqL.of et), ?_⟩
    walk_at "ag rd"
    rw [ml']
    refine of_eqI (fun z0 => ?_) (fun z0 => ?_)
    · rw [if_pos (by omega)] at q
      walk_at "ag rd"
      refine ⟨small' _ (by show 2 ≤ 16777216; decide), fun r hr => ?_⟩
      exact q _ r (sm.new hr) (sm.free hr) upd_same
    · rw [if_neg (by omega)] at q
      walk_at "ag rd"
      refine ⟨a, _, _, _, rfl, rfl, sm.seq hS, (show atI ((AgeSpec.ageNums A).map V.int) 4 = some (.int A.less) from rfl), ?_⟩
      walk_at "ag rd"
      refine of_neI (fun y => ?_) (fun y => ?_)
      · rw [if_neg (by omega)] at q
        walk_at "ag rd"
        refine ⟨.inl ⟨rfl, _, SqL.of et⟩, ?_⟩
        walk_at "ag rd"
        refine ⟨small' _ (by show 1 ≤ 16777216; decide), fun b1 hb1 => ?_⟩
        have s1 := sm.new (o := .lst [.int 45]) hb1
        have et1 : upd H1 b1 (.lst [.int 45]) t = some (.lst (W.map V.int)) := by rw [upd_ne (ne_of_none et hb1)]; exact et
        have eb1 : upd H1 b1 (.lst [.int 45]) b1 = some (.lst [.int 45]) := upd_same
        generalize upd H1 b1 (.lst [.int 45]) = H2 at *
        walk_at "ag rd"
        refine ⟨a, _, _, _, rfl, rfl, s1.seq hS, (show atI ((AgeSpec.ageNums A).map V.int) 4 = some (.int A.less) from rfl), ?_⟩
        walk_at "ag rd"
        refine ⟨hA.s, fun H3 p s3 np e3 => ?_⟩
        refine ⟨b1, p, [.int 45], (decI A.less).map V.int, rfl, rfl, s3 _ _ eb1, e3, ?_, fun r1 hr1 => ?_⟩
        · refine small' _ ?_
          rw [List.length_map]
          show 1 + (decI A.less).length ≤ 16777216
          omega
        have s4 := (s1.trans s3).new (o := .lst ([.int 45] ++ (decI A.less).map V.int)) hr1
        have et4 : upd H3 r1 (.lst ([.int 45] ++ (decI A.less).map V.int)) t = some (.lst (W.map V.int)) := by rw [upd_ne (ne_of_none (s3 _ _ et1) hr1)]; exact s3 _ _ et1
        have er4 : upd H3 r1 (.lst ([.int 45] ++ (decI A.less).map V.int)) r1 = some (.lst ([.int 45] ++ (decI A.less).map V.int)) := upd_same
        generalize upd H3 r1 (.lst ([.int 45] ++ (decI A.less).map V.int)) = H4 at *
        walk_at "ag rd"
        refine ⟨small' _ (by show 1 ≤ 16777216; decide), fun b2 hb2 => ?_⟩
        have s5 := s4.new (o := .lst [.int 100]) hb2
        have et5 : upd H4 b2 (.lst [.int 100]) t = some (.lst (W.map V.int)) := by rw [upd_ne (ne_of_none et4 hb2)]; exact et4
        have er5 : upd H4 b2 (.lst [.int 100]) r1 = some (.lst ([.int 45] ++ (decI A.less).map V.int)) := by rw [upd_ne (ne_of_none er4 hb2)]; exact er4
        have eb5 : upd H4 b2 (.lst [.int 100]) b2 = some (.lst [.int 100]) := upd_same
        generalize upd H4 b2 (.lst [.int 100]) = H5 at *
        refine ⟨r1, b2, [.int 45] ++ (decI A.less).map V.int, [.int 100], rfl, rfl, er5, eb5, ?_, fun r2 hr2 => ?_⟩
        · refine small' _ ?_
          rw [List.length_append, List.length_map]
          show 1 + (decI A.less).length + 1 ≤ 16777216
          omega
        have s6 := s5.new (o := .lst ([.int 45] ++ (decI A.less).map V.int ++ [.int 100])) hr2
        have et6 : upd H5 r2 (.lst ([.int 45] ++ (decI A.less).map V.int ++ [.int 100])) t = some (.lst (W.map V.int)) := by rw [upd_ne (ne_of_none et5 hr2)]; exact et5
        have er6 : upd H5 r2 (.lst ([.int 45] ++ (decI A.less).map V.int ++ [.int 100])) r2 = some (.lst ([.int 45] ++ (decI A.less).map V.int ++ [.int 100])) := upd_same
        generalize upd H5 r2 (.lst ([.int 45] ++ (decI A.less).map V.int ++ [.int 100])) = H6 at *
        walk_at "ag rd"
        refine ⟨t, r2, W.map V.int, _, rfl, rfl, et6, er6, ?_, ?_⟩
        · refine small' _ ?_
          rw [List.length_append, List.length_append, List.length_map, List.length_map]
          show W.length + (1 + (decI A.less).length + 1) ≤ 16777216
          omega
        walk_at "ag rd"
        refine q _ t (s6.chg ht) ht ?_
        rw [upd_same, List.map_append, List.map_append, List.map_append]
        rfl
      · rw [if_pos (by omega)] at q
        walk_at "ag rd"
        exact q H1 t sm ht et
end
end Ag

/-! Dates' texts. -/
namespace Ag
open PySem PySem.Spec PyProof.Rows L2 PySem.FauX
section
variable {P : Program} {w : World} {K : PySem.W.Frag} {mg : Str → Option Value} {base : Heap} {aL aT aH C fI : Addr}

abbrev s_write_date : Stmt := topS 80
abbrev N_write_date : List Str := ["n", "year", "month", "day", "parts", "sign"]
theorem sc_write_date : FnScope N_write_date ["n"] (defScope s_write_date) := ⟨rfl, rfl, rfl, by decide +kernel, rfl, by decide +kernel, by decide +kernel⟩
abbrev numT (n : Nat) : Str := PySem.Str.ofString (toString ((n : Nat) : Int))
theorem pad2 : ∀ n : Fin 100, (PySem.Txt.zfill (numT n.val) 2).cps.toList = [48 + n.val / 10, 48 + n.val % 10] := by decide +kernel
theorem pad4 : ∀ n : Fin 200, (PySem.Txt.zfill (numT (1900 + n.val)) 4).cps.toList = [48 + (1900 + n.val) / 1000, 48 + (1900 + n.val) / 100 % 10, 48 + (1900 + n.val) / 10 % 10, 48 + (1900 + n.val) % 10] := by decide +kernel
/-- the signs of a date's text -/
def dsigns (y m d : Nat) : List Nat := [48 + y / 1000, 48 + y / 100 % 10, 48 + y / 10 % 10, 48 + y % 10] ++ ([45] ++ ([48 + m / 10, 48 + m % 10] ++ ([45] ++ [48 + d / 10, 48 + d % 10])))
theorem joined {y m d : Nat} (h1 : 1900 ≤ y) (h2 : y ≤ 2099) (h3 : m < 100) (h4 : d < 100) :
    (PySem.Txt.join "-" [PySem.Txt.zfill (numT y) 4, PySem.Txt.zfill (numT m) 2, PySem.Txt.zfill (numT d) 2]).cps.toList = dsigns y m d := by
  have e1 := pad4 ⟨y - 1900, by omega⟩
  have e0 : 1900 + (y - 1900) = y := by omega
  simp only [e0] at e1
  have e2 := pad2 ⟨m, h3⟩
  have e3 := pad2 ⟨d, h4⟩
  have ej := TL.tl_join "-" [PySem.Txt.zfill (numT y) 4, PySem.Txt.zfill (numT m) 2, PySem.Txt.zfill (numT d) 2]
  rw [TL.join_eq]
  refine ej.trans ?_
  show (PySem.Txt.zfill (numT y) 4).cps.toList ++ ([45] ++ ((PySem.Txt.zfill (numT m) 2).cps.toList ++ ([45] ++ (PySem.Txt.zfill (numT d) 2).cps.toList))) = _
  rw [e1, e2, e3]
  rfl
theorem ofNat_small {n : Nat} (h : n < 256) : (UInt8.ofNat n).toNat = n := by
  rw [UInt8.toNat_ofNat']
  exact Nat.mod_eq_of_lt h
theorem text_eq {x : VxDay.Date} (h2 : x.y ≤ 9999) (h3 : x.m < 100) (h4 : x.d < 100) : AgeSpec.bytesOut x.text = (dsigns x.y x.m x.d).map fun (c : Nat) => (c : Int) := by
  obtain ⟨y, m, d⟩ := x
  have q : ∀ z : Nat, (((UInt8.ofNat (48 + z % 10)).toNat : Nat) : Int) = ((48 + z % 10 : Nat) : Int) := fun z => by rw [ofNat_small (by omega)]
  unfold VxDay.Date.text AgeSpec.bytesOut
  simp only [VxDay.digits, List.nil_append, List.cons_append, List.map_cons, List.map_nil, q]
  have a1 : y / 10 / 10 / 10 % 10 = y / 1000 := by
    have : y ≤ 9999 := h2
    omega
  have a2 : y / 10 / 10 % 10 = y / 100 % 10 := by omega
  have a3 : m / 10 % 10 = m / 10 := by
    have : m < 100 := h3
    omega
  have a4 : d / 10 % 10 = d / 10 := by
    have : d < 100 := h4
    omega
  rw [a1, a2, a3, a4]
  rfl
def sp_write_date : Sp := sI fun n H Q _ => ∃ nn : Nat, n = (nn : Int) ∧ 1 ≤ nn ∧ nn ≤ 73049 ∧ ∀ H' p, Same H H' → H p = none → H' p = some (.lst ((AgeSpec.bytesOut (VxDay.dateOf nn).text).map V.int)) → Q (.ref p) H'
theorem ok_write_date (T : Txt K mg aL aT aH) (D : Dfn K mg "write_date" s_write_date) (C_date_of : Cal P w K mg base CX0 4 "date_of" sp_date_of) : Cal P w K mg base CX0 5 "write_date" sp_write_date := by
  refine cal0 D sc_write_date lI (fun _ _ _ _ _ _ us hl => match us, hl with | [_], _ => rfl) fun f cdv A outer s H vs Q E hr h => ?_
  obtain ⟨n, rfl, nn, rfl, h1, h2, q⟩ := h
  refine ⟨_, (pss_cons (ps_asg (pe_f C_date_of hr (by decide) (pa_cons (pv 0) pa_nil)) (pg_tup (by rfl) (pgs_cons (pg_name (i := 1) sc_write_date.nd rfl (Or.inl rfl)) (pgs_cons (pg_name (i := 2) sc_write_date.nd rfl (Or.inl rfl)) (pgs_cons (pg_name (i := 3) sc_write_date.nd rfl (Or.inl rfl)) pgs_nil)))))
    (pss_cons (ps_set (i := 4) sc_write_date.nd rfl (Or.inl rfl) (pe_lst (pa_cons (pe_bm PySem.F.plainAttrs_str PySem.F.slot_str_zfill PySem.F.type_str_zfill mt_zfill (pe_callTy call_str_int (by rfl) T.fr.n_str (by decide +kernel) (pa_cons (pv 1) pa_nil)) (pa_cons pe_int pa_nil)) (pa_cons (pe_bm PySem.F.plainAttrs_str PySem.F.slot_str_zfill PySem.F.type_str_zfill mt_zfill (pe_callTy call_str_int (by rfl) T.fr.n_str (by decide +kernel) (pa_cons (pv 2) pa_nil)) (pa_cons pe_int pa_nil)) (pa_cons (pe_bm PySem.F.plainAttrs_str PySem.F.slot_str_zfill PySem.F.type_str_zfill mt_zfill (pe_callTy call_str_int (by rfl) T.fr.n_str (by decide +kernel) (pa_cons (pv 3) pa_nil)) (pa_cons pe_int pa_nil)) pa_nil)))))
    (pss_one (ps_ret (pe_lc (own := [("sign", 5)]) (g := gName 5) (tt := tYes) (by rfl) sc_write_date.nd (pi_str (pe_join pe_str (pv 4))) (blkOk_by (own := [("sign", 5)]) (N := N_write_date) (sc := defScope s_write_date) (by decide +kernel)) (fun _ _ _ _ _ => pg_name (i := 5) sc_write_date.nd rfl (Or.inl rfl)) (fun _ _ _ _ _ => pts_nil) (fun _ _ _ _ _ => (pe_callB call_ord (by rfl) T.fr.n_ord (by decide +kernel) (pa_cons (pv 5) pa_nil)))))))), ?_⟩
  walk_at "ag rd"
  refine ⟨by omega, fun y m d H1 p1 hy hd s1 np1 e1 => ?_⟩
  obtain ⟨q1, q2, q3⟩ := dateOf_is h1 (by omega) hd
  have yb := hd.year
  have hy2 : y ≤ 2099 := by
    by_cases c : y ≤ 2099
    · exact c
    · have a := by_mono (y := 2100) (z := y) (by omega)
      have b : byI 2100 = 73049 := by decide
      omega
  have m1 := hd.m1
  have m2 := hd.m2
  have d1 := hd.d1
  have d2 := Int.le_trans hd.d2 (ml_bounds y m).2
  generalize VxDay.dateOf nn = dt at *
  subst q1 q2 q3
  refine ⟨p1, _, rfl, SqT.of e1, rfl, _, _, rfl, _, _, rfl, _, _, rfl, rfl, ?_⟩
  walk_at "ag rd"
  refine ⟨log_small (by omega), ?_⟩
  walk_at "ag rd"
  walk_at "ag rd"
  refine ⟨log_small (by omega), ?_⟩
  walk_at "ag rd"
  walk_at "ag rd"
  refine ⟨log_small (by omega), ?_⟩
  walk_at "ag rd"
  refine ⟨small' _ (by show 3 ≤ 16777216; decide), fun pp hpp => ?_⟩
  walk_at "ag rd"
  have hjn := joined (m := dt.m) (d := dt.d) (show 1900 ≤ dt.y by omega) (by omega) (by omega) (by omega)
  have htx := text_eq (x := dt) (by omega) (by omega) (by omega)
  rw [htx] at q
  have zl : ∀ n : Nat, n < 100 → (PySem.Txt.zfill (numT n) 2).length = 2 := fun n hn => by
    have e := pad2 ⟨n, hn⟩
    have e2 := congrArg List.length e
    rw [Array.length_toList] at e2
    exact e2
  have zl4 : (PySem.Txt.zfill (numT dt.y) 4).length = 4 := by
    have e1 := pad4 ⟨dt.y - 1900, by omega⟩
    have e0 : 1900 + (dt.y - 1900) = dt.y := by omega
    simp only [e0] at e1
    have e2 := congrArg List.length e1
    rw [Array.length_toList] at e2
    exact e2
  refine ⟨⟨_, rfl⟩, ?_⟩
  walk_at "ag rd"
  refine ⟨_, pp, [PySem.Txt.zfill (numT dt.y) 4, PySem.Txt.zfill (numT dt.m) 2, PySem.Txt.zfill (numT dt.d) 2], rfl, rfl, .inl (SqL.of upd_same), ?_, ?_⟩
  · show (PySem.Txt.zfill (numT dt.y) 4).length + ((PySem.Txt.zfill (numT dt.m) 2).length + ((PySem.Txt.zfill (numT dt.d) 2).length + 0)) + 3 * 1 ≤ 16777216
    rw [zl4, zl _ (by omega), zl _ (by omega)]
    decide
  generalize PySem.Txt.join "-" [PySem.Txt.zfill (numT dt.y) 4, PySem.Txt.zfill (numT dt.m) 2, PySem.Txt.zfill (numT dt.d) 2] = z at hjn ⊢
  have es : z.cps.size = 10 := by
    rw [← Array.length_toList, hjn]
    rfl
  refine ⟨z, rfl, fun Dn hD => ?_⟩
  refine lc_map walk_str (fun j => .str ⟨#[z.cps.getD j 0]⟩) (fun j => .int (z.cps.getD j 0 : Nat)) (fun j Hj x H' hj y => ?_) hD (small _ (by omega)) (fun _ _ => trivial) (fun _ => rfl) (fun j Hj hj sj Qj qj => ?_) (fun H2 s2 e2 => ?_)
  · obtain ⟨e, c, hc, rfl⟩ := y
    refine ⟨e, ?_⟩
    rw [Array.getD_eq_getD_getElem?, hc]
    rfl
  · walk_at "ag rd"
    exact qj Hj (Same.refl _)
  · refine q H2 Dn ((s1.new hpp).trans s2) ((s1.new hpp).free hD) ?_
    rw [e2, ← hjn]
    congr 2
    apply List.ext_getElem
    · rw [List.length_map, List.length_range, List.length_map, List.length_map, Array.length_toList]
    · intro i h1 h2
      rw [List.length_map, List.length_range] at h1
      rw [List.getElem_map, List.getElem_range, List.getElem_map, List.getElem_map, Array.getElem_toList]
      rw [Array.getD_eq_getD_getElem?, Array.getElem?_eq_getElem h1]
      rfl

abbrev s_may_stand : Stmt := topS 81
abbrev N_may_stand : List Str := ["byte", "at"]
theorem sc_may_stand : FnScope N_may_stand ["byte", "at"] (defScope s_may_stand) := ⟨rfl, rfl, rfl, by decide +kernel, rfl, by decide +kernel, by decide +kernel⟩
def standI (b : Int) (p : Nat) : Bool := if p = 4 ∨ p = 7 then decide (b = 45) else digI b
abbrev hyps : List V := [4, 7].map V.int
theorem flat_hyps : hyps.all flatV = true := rfl
theorem hyps_in (p : Nat) : inV (.int p) hyps = decide (p = 4 ∨ p = 7) := by
  by_cases h1 : p = 4
  · subst h1; rfl
  by_cases h2 : p = 7
  · subst h2; rfl
  rw [decide_eq_false (by omega)]
  show (eqV (.int 4) (.int p) || (eqV (.int 7) (.int p) || false)) = false
  have a : ¬ (4 : Int) = (p : Int) := by omega
  have b : ¬ (7 : Int) = (p : Int) := by omega
  simp [eqV, a, b]
def sp_may_stand : Sp := sII fun b p H Q _ => ∃ pn : Nat, p = (pn : Int) ∧ Q (.bl (standI b pn)) H
theorem ok_may_stand (T : Txt K mg aL aT aH) (D : Dfn K mg "may_stand" s_may_stand) (C_is_digit : Cal P w K mg base CX0 1 "is_digit" sp_is_digit) : Cal P w K mg base CX0 2 "may_stand" sp_may_stand := by
  refine cal0 D sc_may_stand lII (fun _ _ _ _ _ _ us hl => match us, hl with | [_, _], _ => rfl) fun f cdv A outer s H vs Q E hr h => ?_
  obtain ⟨b, p, rfl, pn, rfl, q⟩ := h
  refine ⟨_, (pss_cons (ps_if (pt_cmpR op_in_seq (pv 1) (pe_r T.gH) (by rfl)) (pss_one (ps_ret (pe_cmpR op_eq (pv 0) (pe_k T.c_HYPHEN) (nomark _)))) pss_nil)
    (pss_one (ps_ret (pe_f C_is_digit hr (by decide) (pa_cons (pv 0) pa_nil))))), ?_⟩
  unfold standI at q
  walk_at "ag rd"
  refine ⟨aH, hyps, rfl, .inr (T.sH H), rfl, flat_hyps, ?_⟩
  walk_at "ag rd"
  rw [hyps_in]
  refine of_decide (fun c => ?_) (fun c => ?_)
  · rw [if_pos c] at q
    walk_at "ag rd"
    show Q (.bl (decide (V.int b = V.int 45))) H
    rw [dec_int]
    exact q
  · rw [if_neg c] at q
    walk_at "ag rd"
    exact q

abbrev s_check_bytes : Stmt := topS 82
abbrev N_check_bytes : List Str := ["text", "at"]
theorem sc_check_bytes : FnScope N_check_bytes ["text"] (defScope s_check_bytes) := ⟨rfl, rfl, rfl, by decide +kernel, rfl, by decide +kernel, by decide +kernel⟩
/-- the first fault of the bytes, if any -/
def chkI (ns : List Int) : Nat → Nat → Er Unit
  | 0, _ => if 10 < ns.length then .error (2, 10) else .ok ()
  | f + 1, p => match ns[p]? with
    | none => .error (1, p)
    | some b => if standI b p = false then .error (2, p) else chkI ns f (p + 1)
theorem chkI_some {ns : List Int} {f p : Nat} {b : Int} (h : ns[p]? = some b) : chkI ns (f + 1) p = if standI b p = false then .error (2, (p : Int)) else chkI ns f (p + 1) := by
  conv => lhs; unfold chkI
  rw [h]
theorem chkI_none {ns : List Int} {f p : Nat} (h : ns[p]? = none) : chkI ns (f + 1) p = .error (1, (p : Int)) := by
  conv => lhs; unfold chkI
  rw [h]
def sp_check_bytes (K : PySem.W.Frag) (C : Addr) : Sp := sR fun a H Q E => ∃ ns : List Int, SqL K H a (ns.map V.int) ∧ out C H E (chkI ns 10 0) fun _ => Q .non H
theorem ok_check_bytes (T : Txt K mg aL aT aH) (TF : FauTxt K mg C fI) (D : Dfn K mg "check_bytes" s_check_bytes) (C_may_stand : Cal P w K mg base CX0 2 "may_stand" sp_may_stand) : Cal P w K mg base (L2.CX P w) 3 "check_bytes" (sp_check_bytes K C) := by
  refine calX D sc_check_bytes lR (fun _ _ _ _ _ _ us hl => match us, hl with | [_], _ => rfl) fun f cdv A outer s H vs Q E hr h => ?_
  obtain ⟨a, rfl, ns, hS, q⟩ := h
  have tk0 := takes_of (X := cxOf (L2.CX P w) P w K mg base N_check_bytes "check_bytes" (defScope s_check_bytes) f cdv A outer s H E) (E := E) rfl rfl rfl rfl
  refine ⟨_, (pss_cons (ps_for (passes_of rfl) rfl (pi_range1 rfl T.fr.n_range (pa_cons (pe_k T.c_TEXT_LENGTH) pa_nil)) (pg_name (i := 1) sc_check_bytes.nd rfl (Or.inl rfl))
    (pss_cons (ps_if (pt_cmpR op_eq (pv 1) (pe_callB call_len_seq (by rfl) T.fr.n_len (by decide +kernel) (pa_cons (pv 0) pa_nil)) (nomark _)) (pss_one (ps_raiseF rfl TF hr tk0 (pa_cons (pe_k T.c_TOO_SOON) (pa_cons (pv 1) pa_nil)))) pss_nil)
    (pss_one (ps_if (pt_not (pt_val (pe_f C_may_stand hr (by decide) (pa_cons (pe_ix ix_list (pv 0) (pv 1) (fun _ _ => rfl)) (pa_cons (pv 1) pa_nil))))) (pss_one (ps_raiseF rfl TF hr tk0 (pa_cons (pe_k T.c_WRONG_BYTE) (pa_cons (pv 1) pa_nil)))) pss_nil))))
    (pss_one (ps_if (pt_cmpR op_gt (pe_callB call_len_seq (by rfl) T.fr.n_len (by decide +kernel) (pa_cons (pv 0) pa_nil)) (pe_k T.c_TEXT_LENGTH) (nomark _)) (pss_one (ps_raiseF rfl TF hr tk0 (pa_cons (pe_k T.c_WRONG_BYTE) (pa_cons (pe_k T.c_TEXT_LENGTH) pa_nil)))) pss_nil))), ?_⟩
  walk_at "ag rd"
  generalize hR : chkI ns 10 0 = R at q
  refine ⟨by decide, by decide, for_range (lo := 0) (n := (10 : Int).toNat) (fun j σ H' => ∃ x : Option V, σ = [some (.ref a), x] ∧ H' = H ∧ j ≤ ns.length ∧ chkI ns (10 - j) j = R) ⟨none, rfl, rfl, Nat.zero_le _, hR⟩ ?_ ?_⟩
  · rintro j σ H' hj ⟨x, rfl, rfl, hl, e⟩
    have hj : j < 10 := hj
    obtain ⟨f, hf⟩ : ∃ f, 10 - j = f + 1 := ⟨9 - j, by omega⟩
    have hf2 : 10 - (j + 1) = f := by omega
    rw [hf] at e
    have e0 : (0 : Int) + (j : Int) = (j : Int) := by omega
    rw [e0]
    walk_at "ag rd"
    refine ⟨_, _, rfl, .inl hS, ?_⟩
    walk_at "ag rd"
    rw [ml]
    refine of_eqI (fun c => ?_) (fun c => ?_)
    · rw [chkI_none (List.getElem?_eq_none (by omega))] at e
      have q' := out_er q e.symm
      walk_at "ag rd"
      exact fun dd hd => res_new q' (Same.refl _) dd hd
    · have hl2 : j < ns.length := by omega
      rw [chkI_some (List.getElem?_eq_getElem hl2)] at e
      walk_at "ag rd"
      refine ⟨a, _, _, _, rfl, rfl, hS, at_int (List.getElem?_eq_getElem hl2), ?_⟩
      walk_at "ag rd"
      refine of_not (fun z => ?_) (fun z => ?_)
      · rw [if_pos z] at e
        have q' := out_er q e.symm
        walk_at "ag rd"
        exact fun dd hd => res_new q' (Same.refl _) dd hd
      · rw [z, if_neg (by decide)] at e
        refine ⟨_, rfl, rfl, hl2, ?_⟩
        rw [hf2]
        exact e
  · rintro σ H' ⟨x, rfl, rfl, hl, e⟩
    have e' : (if 10 < ns.length then .error (2, 10) else .ok () : Er Unit) = R := e
    walk_at "ag rd"
    refine ⟨_, _, rfl, .inl hS, ?_⟩
    walk_at "ag rd"
    rw [ml]
    refine of_decide (fun c => ?_) (fun c => ?_)
    · rw [if_pos (by omega)] at e'
      have q' := out_er q e'.symm
      walk_at "ag rd"
      exact fun dd hd => res_new q' (Same.refl _) dd hd
    · rw [if_neg (by omega)] at e'
      have q' := out_ok q e'.symm
      exact q'

abbrev s_read_date : Stmt := topS 83
abbrev N_read_date : List Str := ["text", "year", "month", "day"]
theorem sc_read_date : FnScope N_read_date ["text"] (defScope s_read_date) := ⟨rfl, rfl, rfl, by decide +kernel, rfl, by decide +kernel, by decide +kernel⟩
def rdDate (ns : List Int) : Er Int := match chkI ns 10 0 with
  | .error e => .error e
  | .ok _ => if isDateI (valI (slice ns 0 4)) (valI (slice ns 5 7)) (valI (slice ns 8 10)) = false then .error (3, 0) else .ok (dayI (valI (slice ns 0 4)) (valI (slice ns 5 7)) (valI (slice ns 8 10)))
theorem chkI_len {ns : List Int} : ∀ {f p : Nat}, p + f = 10 → p ≤ ns.length → chkI ns f p = .ok () → ns.length = 10 ∧ ∀ j, p ≤ j → j < 10 → standI (ns.getD j 0) j = true
  | 0, p, h, h2, e => by
    unfold chkI at e
    split at e
    · cases e
    · exact ⟨by omega, fun j a b => by omega⟩
  | f + 1, p, h, h2, e => by
    by_cases hl : p < ns.length
    · rw [chkI_some (List.getElem?_eq_getElem hl)] at e
      split at e
      · cases e
      · rename_i hz
        obtain ⟨a, b⟩ := chkI_len (by omega) hl e
        refine ⟨a, fun j h3 h4 => ?_⟩
        by_cases hj : j = p
        · rw [hj, List.getD_eq_getElem?_getD, List.getElem?_eq_getElem hl]
          exact Bool.of_not_eq_false hz
        · exact b j (by omega) h4
    · rw [chkI_none (List.getElem?_eq_none (by omega))] at e
      cases e
def sp_read_date (K : PySem.W.Frag) (C : Addr) : Sp := sR fun a H Q E => ∃ ns : List Int, SqL K H a (ns.map V.int) ∧ out C H E (rdDate ns) fun d => ∀ H', Same H H' → Q (.int d) H'
theorem ok_read_date (T : Txt K mg aL aT aH) (TF : FauTxt K mg C fI) (D : Dfn K mg "read_date" s_read_date) (C_check_bytes : Cal P w K mg base (L2.CX P w) 3 "check_bytes" (sp_check_bytes K C)) (C_number_of : Cal P w K mg base CX0 1 "number_of" (sp_number_of K))
    (C_is_date : Cal P w K mg base CX0 3 "is_date" sp_is_date) (C_day_of : Cal P w K mg base CX0 4 "day_of" sp_day_of) : Cal P w K mg base (L2.CX P w) 5 "read_date" (sp_read_date K C) := by
  refine calX D sc_read_date lR (fun _ _ _ _ _ _ us hl => match us, hl with | [_], _ => rfl) fun f cdv A outer s H vs Q E hr h => ?_
  obtain ⟨a, rfl, ns, hS, q⟩ := h
  have tk0 := takes_of (X := cxOf (L2.CX P w) P w K mg base N_read_date "read_date" (defScope s_read_date) f cdv A outer s H E) (E := E) rfl rfl rfl rfl
  refine ⟨_, (pss_cons (ps_expr (pe_fX C_check_bytes tk0 hr (by decide) (pa_cons (pv 0) pa_nil)))
    (pss_cons (ps_par3 (i := 1) (j := 2) (l := 3) (by rfl) sc_read_date.nd rfl rfl rfl (by decide) (by decide) (by decide) rfl rfl rfl (pa_cons (pe_f C_number_of hr (by decide) (pa_cons (pe_slice sl_list (pv 0) (po_some pe_int) (po_some pe_int)) pa_nil)) (pa_cons (pe_f C_number_of hr (by decide) (pa_cons (pe_slice sl_list (pv 0) (po_some pe_int) (po_some pe_int)) pa_nil)) (pa_cons (pe_f C_number_of hr (by decide) (pa_cons (pe_slice sl_list (pv 0) (po_some pe_int) (po_some pe_int)) pa_nil)) pa_nil))) (by rfl))
    (pss_cons (ps_if (pt_not (pt_val (pe_f C_is_date hr (by decide) (pa_cons (pv 1) (pa_cons (pv 2) (pa_cons (pv 3) pa_nil)))))) (pss_one (ps_raiseF rfl TF hr tk0 (pa_cons (pe_k T.c_NO_SUCH_DATE) (pa_cons pe_int pa_nil)))) pss_nil)
    (pss_one (ps_ret (pe_f C_day_of hr (by decide) (pa_cons (pv 1) (pa_cons (pv 2) (pa_cons (pv 3) pa_nil))))))))), ?_⟩
  unfold rdDate at q
  walk_at "ag rd"
  refine ⟨ns, hS, ?_⟩
  cases hc : chkI ns 10 0 with
  | error er =>
    rw [hc] at q
    exact q
  | ok u =>
    rw [hc] at q
    dsimp only at q
    obtain ⟨h10, _⟩ := chkI_len (p := 0) rfl (Nat.zero_le _) hc
    show _
    walk_at "ag rd"
    refine ⟨a, _, rfl, hS, fun p1 f1 => ?_⟩
    walk_at "ag rd"
    refine ⟨slice ns 0 4, SqL.of ?_, ?_⟩
    · rw [upd_same]
      exact congrArg (fun z => some (HO.lst z)) (cut_slice (p := 0) (e := 4) (by omega) (by omega))
    have s1 := same_new (o := .lst (cutV (ns.map V.int) (some 0) (some 4))) f1
    walk_at "ag rd"
    refine ⟨a, _, rfl, s1.seq hS, fun p2 f2 => ?_⟩
    walk_at "ag rd"
    refine ⟨slice ns 5 7, SqL.of ?_, ?_⟩
    · rw [upd_same]
      exact congrArg (fun z => some (HO.lst z)) (cut_slice (p := 5) (e := 7) (by omega) (by omega))
    have s2 := s1.new (o := .lst (cutV (ns.map V.int) (some 5) (some 7))) f2
    walk_at "ag rd"
    refine ⟨a, _, rfl, s2.seq hS, fun p3 f3 => ?_⟩
    walk_at "ag rd"
    refine ⟨slice ns 8 10, SqL.of ?_, ?_⟩
    · rw [upd_same]
      exact congrArg (fun z => some (HO.lst z)) (cut_slice (p := 8) (e := 10) (by omega) (by omega))
    have s3 := s2.new (o := .lst (cutV (ns.map V.int) (some 8) (some 10))) f3
    walk_at "ag rd"
    refine of_not (fun z => ?_) (fun z => ?_)
    · rw [z, if_pos rfl] at q
      walk_at "ag rd"
      exact fun dd hd => res_new q s3 dd hd
    · rw [z, if_neg (by decide)] at q
      have hm : 1 ≤ valI (slice ns 5 7) ∧ valI (slice ns 5 7) ≤ 12 := by
        unfold isDateI isMonthI at z
        simp only [Bool.and_eq_true, decide_eq_true_eq] at z
        exact z.1.2
      walk_at "ag rd"
      refine ⟨hm.1, hm.2, fun H4 s4 => ?_⟩
      exact q H4 (s3.trans s4)
end
end Ag

/-! What each call answers, by the mirror's words. -/
namespace Ag
open VxDay AgeSpec

theorem day_cases (n : Int) : (isDayI n = false ∧ dayIn n = none) ∨ (∃ k : Nat, isDayI n = true ∧ dayIn n = some k ∧ n = (k : Int) ∧ 1 ≤ k ∧ k ≤ 73049) := by
  unfold isDayI dayIn isDay DAYS
  by_cases h : 1 ≤ n ∧ n ≤ 73049
  · refine .inr ⟨n.toNat, ?_, ?_, by omega, by omega, by omega⟩
    · rw [decide_eq_true h.1, decide_eq_true h.2]; rfl
    · refine if_pos ⟨by omega, ?_⟩
      rw [decide_eq_true (show 1 ≤ n.toNat by omega), decide_eq_true (show n.toNat ≤ 73049 by omega)]; rfl
  · refine .inl ⟨?_, ?_⟩
    · by_cases h1 : 1 ≤ n
      · rw [decide_eq_false (fun z => h ⟨h1, z⟩), Bool.and_false]
      · rw [decide_eq_false h1]; rfl
    · refine if_neg fun ⟨z0, z⟩ => ?_
      simp only [Bool.and_eq_true, decide_eq_true_eq] at z
      omega
theorem age_cases (ns : List Int) : (isAgeI ns = false ∧ ageOf ns = none) ∨ (∃ A : Age, isAgeI ns = true ∧ ageOf ns = some A ∧ ns = ageNums A ∧ Okp A) := by
  by_cases hl : ns.length = 5
  · obtain ⟨y, m, w, d, s, rfl⟩ := five hl
    have eA : isAgeI [y, m, w, d, s] = true ↔ ((0 ≤ y ∧ y ≤ 9999) ∧ (0 ≤ m ∧ m ≤ 9999) ∧ (0 ≤ w ∧ w ≤ 9999) ∧ (0 ≤ d ∧ d ≤ 9999) ∧ (0 ≤ s ∧ s ≤ 9999)) ∧ (s = 0 ∨ 0 < y + m + w + d) := by
      unfold isAgeI
      simp only [List.all_cons, List.all_nil, Bool.and_eq_true, Bool.or_eq_true, decide_eq_true_eq, and_true]
    have eB : ageOf [y, m, w, d, s] = if isAgeI [y, m, w, d, s] = true then some ⟨y.toNat, m.toNat, w.toNat, d.toNat, s.toNat⟩ else none := by
      by_cases c : isAgeI [y, m, w, d, s] = true
      · rw [if_pos c]
        have z := eA.mp c
        unfold ageOf
        refine if_pos ⟨?_, ?_⟩
        · simp only [List.all_cons, List.all_nil, Bool.and_eq_true, decide_eq_true_eq, and_true]
          omega
        · unfold Age.ok PART
          simp only [Bool.and_eq_true, Bool.or_eq_true, decide_eq_true_eq, beq_iff_eq]
          omega
      · rw [if_neg c]
        unfold ageOf
        refine if_neg fun ⟨z1, z2⟩ => c (eA.mpr ?_)
        simp only [List.all_cons, List.all_nil, Bool.and_eq_true, decide_eq_true_eq, and_true] at z1
        unfold Age.ok PART at z2
        simp only [Bool.and_eq_true, Bool.or_eq_true, decide_eq_true_eq, beq_iff_eq] at z2
        omega
    by_cases c : isAgeI [y, m, w, d, s] = true
    · have z := eA.mp c
      rw [if_pos c] at eB
      refine .inr ⟨_, c, eB, ?_, ⟨?_, ?_, ?_, ?_, ?_⟩⟩
      · show [y, m, w, d, s] = [(y.toNat : Int), (m.toNat : Int), (w.toNat : Int), (d.toNat : Int), (s.toNat : Int)]
        rw [show (y.toNat : Int) = y by omega, show (m.toNat : Int) = m by omega, show (w.toNat : Int) = w by omega, show (d.toNat : Int) = d by omega, show (s.toNat : Int) = s by omega]
      · show y.toNat ≤ 9999; omega
      · show m.toNat ≤ 9999; omega
      · show w.toNat ≤ 9999; omega
      · show d.toNat ≤ 9999; omega
      · show s.toNat ≤ 9999; omega
    · rw [if_neg c] at eB
      exact .inl ⟨Bool.of_not_eq_true c, eB⟩
  · refine .inl ⟨isAge_len hl, ?_⟩
    unfold ageOf
    split
    · exact absurd rfl hl
    · rfl

/-! ### dates -/
theorem a_day (y m d : Int) : answer (.day y m d) = if isDateI y m d = true then [0, dayI y m d] else [-1] := by
  show (if y < 0 ∨ m < 0 ∨ d < 0 then no 1 else _) = _
  by_cases c : isDateI y m d = true
  · rw [if_pos c]
    unfold isDateI isMonthI at c
    simp only [Bool.and_eq_true, decide_eq_true_eq] at c
    rw [if_neg (by omega)]
    have e := numberOf_eq (y := y.toNat) (m := m.toNat) (d := d.toNat) (by omega) (by omega)
    have e1 : (y.toNat : Int) = y := by omega
    have e2 : (m.toNat : Int) = m := by omega
    have e3 : (d.toNat : Int) = d := by omega
    have em := md_eq y.toNat m.toNat
    rw [e1, e2, e3] at e
    rw [e1, e2] at em
    have ed : dayOf ⟨y.toNat, m.toNat, d.toNat⟩ = some (numberOf ⟨y.toNat, m.toNat, d.toNat⟩) := by
      unfold dayOf
      refine if_pos ?_
      unfold isDate FIRST LASTYEAR
      simp only [Bool.and_eq_true, decide_eq_true_eq]
      omega
    rw [ed]
    show [(0 : Int), ((numberOf ⟨y.toNat, m.toNat, d.toNat⟩ : Nat) : Int)] = _
    rw [e]
  · rw [if_neg c]
    by_cases n : y < 0 ∨ m < 0 ∨ d < 0
    · rw [if_pos n]; rfl
    · rw [if_neg n]
      have em := md_eq y.toNat m.toNat
      have e1 : (y.toNat : Int) = y := by omega
      have e2 : (m.toNat : Int) = m := by omega
      rw [e1, e2] at em
      have ed : dayOf ⟨y.toNat, m.toNat, d.toNat⟩ = none := by
        unfold dayOf
        refine if_neg fun z => c ?_
        unfold isDate FIRST LASTYEAR at z
        simp only [Bool.and_eq_true, decide_eq_true_eq] at z
        unfold isDateI isMonthI
        simp only [Bool.and_eq_true, decide_eq_true_eq]
        omega
      rw [ed]
      rfl
theorem a_date_no {n : Int} (h : dayIn n = none) : answer (.date n) = [-1] := by
  show (match dayIn n with | some n => _ | none => no 1) = _
  rw [h]; rfl
theorem a_date {n : Int} {k : Nat} (h : dayIn n = some k) (h1 : 1 ≤ k) : answer (.date n) = [0, ((dateOf k).y : Int), ((dateOf k).m : Int), ((dateOf k).d : Int), wdI k] := by
  show (match dayIn n with | some n => tells (nums [(dateOf n).y, (dateOf n).m, (dateOf n).d, weekday n]) | none => no 1) = _
  rw [h]
  have e : wdI k = ((weekday k : Nat) : Int) := by
    unfold wdI weekday
    omega
  rw [e]
  rfl
theorem a_show_no {n : Int} (h : dayIn n = none) : answer (.show_ n) = [-1] := by
  show (match dayIn n with | some n => _ | none => no 1) = _
  rw [h]; rfl
theorem a_show {n : Int} {k : Nat} (h : dayIn n = some k) : answer (.show_ n) = 0 :: bytesOut (dateOf k).text := by
  show (match dayIn n with | some n => tells (bytesOut (dateOf n).text) | none => no 1) = _
  rw [h]; rfl
def nthI (y m k w : Int) : List Int := if k = 0 then [0, lwI (dayI y m (mlI y m)) w] else if fwI (dayI y m 1) w + 7 * (k - 1) > dayI y m (mlI y m) then [-2] else [0, fwI (dayI y m 1) w + 7 * (k - 1)]
theorem a_nth_no {y m k w : Int} (h : ¬ (isMonthI y m = true ∧ (0 ≤ k ∧ k ≤ 5) ∧ (1 ≤ w ∧ w ≤ 7))) : answer (.nth y m k w) = [-1] := by
  show (if within 1900 2099 y && (within 1 12 m && (within 0 5 k && within 1 7 w)) then _ else no 1) = _
  refine (if_neg fun z => h ?_).trans rfl
  unfold within at z
  unfold isMonthI
  simp only [Bool.and_eq_true, decide_eq_true_eq] at z ⊢
  omega
theorem a_nth {y m k w : Int} (h : isMonthI y m = true) (hk : 0 ≤ k ∧ k ≤ 5) (hw : 1 ≤ w ∧ w ≤ 7) : answer (.nth y m k w) = nthI y m k w := by
  unfold isMonthI at h
  simp only [Bool.and_eq_true, decide_eq_true_eq] at h
  show (if within 1900 2099 y && (within 1 12 m && (within 0 5 k && within 1 7 w)) then (match nthOf y.toNat m.toNat k.toNat w.toNat with | some n => tells [(n : Int)] | none => no 2) else no 1) = _
  have c : (within 1900 2099 y && (within 1 12 m && (within 0 5 k && within 1 7 w))) = true := by
    unfold within
    simp only [Bool.and_eq_true, decide_eq_true_eq]
    omega
  refine (if_pos c).trans ?_
  have e1 : (y.toNat : Int) = y := by omega
  have e2 : (m.toNat : Int) = m := by omega
  have e3 : (k.toNat : Int) = k := by omega
  have e4 : (w.toNat : Int) = w := by omega
  have fp := first_pos (y := y) (m := m) (by omega) (by omega) (by omega)
  obtain ⟨q1, q2⟩ := nth_eq (y := y.toNat) (m := m.toNat) (w := w.toNat) (by omega) (by omega) (by omega) (by omega) (by omega) k.toNat (by rw [e1, e2]; exact fp)
  rw [e1, e2, e3, e4] at q2
  rw [e1, e2, e4] at q1
  unfold nthI
  by_cases hz : k = 0
  · obtain ⟨n, en, eq⟩ := q1 (by omega)
    rw [en, if_pos hz, ← eq]
    rfl
  · rw [if_neg hz]
    obtain ⟨r1, r2⟩ := q2 (by omega)
    by_cases g : fwI (dayI y m 1) w + 7 * (k - 1) > dayI y m (mlI y m)
    · rw [r1 g, if_pos g]; rfl
    · obtain ⟨n, en, eq⟩ := r2 g
      rw [en, if_neg g, ← eq]; rfl

/-! ### ages -/
theorem a_on_no {a : List Int} {b : Int} (h : ageOf a = none ∨ dayIn b = none) : answer (.on a b) = [-1] := by
  show (match ageOf a, dayIn b with | some a, some b => (match a.on b with | some n => tells [(n : Int)] | none => no 2) | _, _ => no 1) = _
  rcases h with h | h
  · rw [h]; rfl
  · rw [h]
    cases ageOf a <;> rfl
theorem a_on {a : List Int} {b : Int} {A : Age} {k : Nat} (h1 : ageOf a = some A) (h2 : dayIn b = some k) : answer (.on a b) = if dayOut (A.on k) = 0 then [-2] else [0, dayOut (A.on k)] := by
  show (match ageOf a, dayIn b with | some a, some b => (match a.on b with | some n => tells [(n : Int)] | none => no 2) | _, _ => no 1) = _
  rw [h1, h2]
  show (match A.on k with | some n => tells [(n : Int)] | none => no 2) = _
  cases e : A.on k with
  | none => rfl
  | some x =>
    have := on_pos e
    rw [if_neg (show ¬ dayOut (some x) = 0 by show ¬ ((x : Nat) : Int) = 0; omega)]
    rfl
theorem a_old_no {b n : Int} (h : dayIn b = none ∨ dayIn n = none) : answer (.old b n) = [-1] := by
  show (match dayIn b, dayIn n with | some b, some n => if n < b then no 2 else tells (nums [(oldOn b n).1, (oldOn b n).2.1, (oldOn b n).2.2]) | _, _ => no 1) = _
  rcases h with h | h
  · rw [h]; rfl
  · rw [h]
    cases dayIn b <;> rfl
theorem a_old {b n : Int} {i j : Nat} (h1 : dayIn b = some i) (h2 : dayIn n = some j) : answer (.old b n) = if j < i then [-2] else [0, ((monthsOld i j (monthsMost i j) / 12 : Nat) : Int), ((monthsOld i j (monthsMost i j) % 12 : Nat) : Int), ((j - mo i (monthsOld i j (monthsMost i j)) : Nat) : Int)] := by
  show (match dayIn b, dayIn n with | some b, some n => if n < b then no 2 else tells (nums [(oldOn b n).1, (oldOn b n).2.1, (oldOn b n).2.2]) | _, _ => no 1) = _
  rw [h1, h2]
  rfl
theorem a_row_no {a bs : List Int} (h : isAgeI a = false ∨ 64 < bs.length ∨ bs.all isDayI = false) : answer (.row a bs) = [-1] := by
  show (match ageOf a, bs.mapM dayIn with | some a, some l => if ROW < l.length then no 1 else tells (l.map fun (b : Nat) => dayOut (a.on b)) | _, _ => no 1) = _
  rcases age_cases a with ⟨_, e⟩ | ⟨A, e1, e2, _, _⟩
  · rw [e]; rfl
  rw [e2]
  cases e : bs.mapM dayIn with
  | none => rfl
  | some l =>
    have key : ∀ (bs : List Int) (l : List Nat), bs.mapM dayIn = some l → l.length = bs.length ∧ bs.all isDayI = true := by
      intro bs
      induction bs with
      | nil =>
        intro l h
        obtain rfl : [] = l := Option.some.inj h
        exact ⟨rfl, rfl⟩
      | cons x r ih =>
        intro l h
        rw [List.mapM_cons] at h
        rcases day_cases x with ⟨_, e⟩ | ⟨k, d1, d2, _⟩
        · rw [e] at h; cases h
        · rw [d2] at h
          cases er : r.mapM dayIn with
          | none => rw [er] at h; cases h
          | some l' =>
            rw [er] at h
            obtain rfl : k :: l' = l := Option.some.inj h
            obtain ⟨i1, i2⟩ := ih l' er
            refine ⟨by rw [List.length_cons, List.length_cons, i1], ?_⟩
            rw [List.all_cons, d1, i2]; rfl
    obtain ⟨k1, k2⟩ := key bs l e
    rcases h with h | h | h
    · rw [h] at e1; cases e1
    · exact (if_pos (show ROW < l.length by unfold ROW; omega)).trans rfl
    · rw [h] at k2; cases k2
theorem mapM_days : ∀ {bs : List Int}, bs.all isDayI = true → bs.mapM dayIn = some (bs.map Int.toNat)
  | [], _ => rfl
  | x :: r, h => by
    rw [List.all_cons, Bool.and_eq_true] at h
    rw [List.mapM_cons]
    rcases day_cases x with ⟨e, _⟩ | ⟨k, d1, d2, d3, _⟩
    · rw [e] at h; cases h.1
    · rw [d2, mapM_days h.2, d3]
      rfl
theorem a_row {a bs : List Int} {A : Age} (h1 : ageOf a = some A) (h2 : bs.length ≤ 64) (h3 : bs.all isDayI = true) : answer (.row a bs) = 0 :: bs.map fun b => dayOut (A.on b.toNat) := by
  show (match ageOf a, bs.mapM dayIn with | some a, some l => if ROW < l.length then no 1 else tells (l.map fun (b : Nat) => dayOut (a.on b)) | _, _ => no 1) = _
  rw [h1, mapM_days h3]
  refine (if_neg (show ¬ ROW < (bs.map Int.toNat).length by rw [List.length_map]; unfold ROW; omega)).trans ?_
  unfold tells
  rw [List.map_map]
  rfl
theorem a_born_no {a : List Int} {n : Int} (h : ageOf a = none ∨ dayIn n = none) : answer (.born a n) = [-1] := by
  show (match ageOf a, dayIn n with | some a, some n => tells (nums ((births a n).length :: births a n)) | _, _ => no 1) = _
  rcases h with h | h
  · rw [h]; rfl
  · rw [h]
    cases ageOf a <;> rfl
theorem a_born {a : List Int} {n : Int} {A : Age} {k : Nat} (h1 : ageOf a = some A) (h2 : dayIn n = some k) : answer (.born a n) = 0 :: ((births A k).length : Int) :: (births A k).map fun (x : Nat) => (x : Int) := by
  show (match ageOf a, dayIn n with | some a, some n => tells (nums ((births a n).length :: births a n)) | _, _ => no 1) = _
  rw [h1, h2]
  rfl
def areB (lo hi : Int) : Bool := isDayI lo && (isDayI hi && (decide (0 ≤ hi - lo) && decide (hi - lo < 2000)))
theorem a_sooner_no {a c : List Int} {lo hi : Int} (h : areB lo hi = false ∨ ageOf a = none ∨ ageOf c = none) : answer (.sooner a c lo hi) = [-1] := by
  show (match ageOf a, ageOf c, dayIn lo, dayIn hi with
    | some a, some c, some lo, some hi => if hi < lo ∨ BIRTHS < hi + 1 - lo then no 1 else tells (nums ([0, 1, 2].flatMap (often a c ((List.range (hi + 1 - lo)).map fun (i : Nat) => lo + i))))
    | _, _, _, _ => no 1) = _
  cases e1 : ageOf a with
  | none => rfl
  | some A =>
  cases e2 : ageOf c with
  | none => rfl
  | some C =>
  rw [e1, e2] at h
  have h' : areB lo hi = false := by
    rcases h with h | h | h
    · exact h
    · cases h
    · cases h
  unfold areB at h'
  rcases day_cases lo with ⟨l1, l2⟩ | ⟨i, l1, l2, rfl, l4, l5⟩
  · rw [l2]; rfl
  rcases day_cases hi with ⟨r1, r2⟩ | ⟨j, r1, r2, rfl, r4, r5⟩
  · rw [r2]
    cases dayIn (i : Int) <;> rfl
  rw [l2, r2]
  rw [l1, r1, Bool.true_and, Bool.true_and] at h'
  refine (if_pos (show j < i ∨ BIRTHS < j + 1 - i from ?_)).trans rfl
  unfold BIRTHS
  have : ¬ (0 ≤ (j : Int) - i ∧ (j : Int) - i < 2000) := fun z => by
    rw [decide_eq_true z.1, decide_eq_true z.2] at h'
    cases h'
  omega
theorem a_sooner {a c : List Int} {i j : Nat} {A C : Age} (h1 : ageOf a = some A) (h2 : ageOf c = some C) (hb : areB i j = true) :
    answer (.sooner a c i j) = [0, ((wh A C 0 i (j + 1 - i)).length : Int), ((wh A C 0 i (j + 1 - i)).headD 0 : Nat), ((wh A C 1 i (j + 1 - i)).length : Int), ((wh A C 1 i (j + 1 - i)).headD 0 : Nat), ((wh A C 2 i (j + 1 - i)).length : Int), ((wh A C 2 i (j + 1 - i)).headD 0 : Nat)] := by
  show (match ageOf a, ageOf c, dayIn (i : Int), dayIn (j : Int) with
    | some a, some c, some lo, some hi => if hi < lo ∨ BIRTHS < hi + 1 - lo then no 1 else tells (nums ([0, 1, 2].flatMap (often a c ((List.range (hi + 1 - lo)).map fun (i : Nat) => lo + i))))
    | _, _, _, _ => no 1) = _
  unfold areB at hb
  simp only [Bool.and_eq_true, decide_eq_true_eq] at hb
  obtain ⟨b1, b2, b3, b4⟩ := hb
  rcases day_cases (i : Int) with ⟨l1, l2⟩ | ⟨i', l1, l2, l3, l4, l5⟩
  · rw [l1] at b1; cases b1
  rcases day_cases (j : Int) with ⟨r1, r2⟩ | ⟨j', r1, r2, r3, r4, r5⟩
  · rw [r1] at b2; cases b2
  obtain rfl : i = i' := by omega
  obtain rfl : j = j' := by omega
  rw [h1, h2, l2, r2]
  refine (if_neg (show ¬ (j < i ∨ BIRTHS < j + 1 - i) from ?_)).trans ?_
  · unfold BIRTHS
    omega
  rfl
end Ag

/-! What each call answers. -/
namespace Ag
open PySem PySem.Spec PyProof.Rows L2 PySem.FauX
open VxDay (Age)
section
variable {P : Program} {w : World} {K : PySem.W.Frag} {mg : Str → Option Value} {base : Heap} {aL aT aH C fI : Addr}
/-- a new list of the answer's numbers -/
def ans (H : Hp) (Q : VK) (r : List Int) : Prop := ∀ H' p, Same H H' → H p = none → H' p = some (.lst (r.map V.int)) → Q (.ref p) H'
theorem ans_lst {H H1 : Hp} {Q : VK} {r : List Int} (q : ans H Q r) (s : Same H H1) (hn : r.length ≤ 16777216) : (r.map V.int).length ≤ sizeLine ∧ ∀ p, H1 p = none → Q (.ref p) (upd H1 p (.lst (r.map V.int))) :=
  ⟨small' _ (by rw [List.length_map]; exact hn), fun p hp => q _ p (s.new hp) (s.free hp) upd_same⟩
def told1 (r : Er Int) : List Int := match r with
  | .ok d => [0, d]
  | .error e => [-6, e.1, e.2]
def toldL (r : Er (List Int)) : List Int := match r with
  | .ok l => 0 :: l
  | .error e => [-6, e.1, e.2]

theorem old_le {i j : Nat} (h1 : 1 ≤ i) (h2 : i ≤ j) (h3 : j ≤ 73049) : mo i (AgeSpec.monthsOld i j (AgeSpec.monthsMost i j)) ≤ j := by
  obtain ⟨_, hb⟩ := dateOf_ok (n := i) h1 (by omega)
  obtain ⟨_, hn⟩ := dateOf_ok (n := j) (by omega) (by omega)
  exact (monthsOld_eq h1 (by omega) (by omega) (by omega) h2 hb hn).2.2
theorem births_len {A : Age} {n : Nat} (h : Okp A) : (AgeSpec.births A n).length ≤ 50000 := by
  have h1 := h.y
  have h2 := h.m
  unfold AgeSpec.births
  refine Nat.le_trans (List.length_filter_le _ _) ?_
  rw [List.length_map, List.length_range]
  omega

abbrev s_tell_day : Stmt := topS 85
abbrev N_tell_day : List Str := ["y", "m", "d"]
theorem sc_tell_day : FnScope N_tell_day ["y", "m", "d"] (defScope s_tell_day) := ⟨rfl, rfl, rfl, by decide +kernel, rfl, by decide +kernel, by decide +kernel⟩
def sp_tell_day : Sp := sIII fun y m d H Q _ => ans H Q (AgeSpec.answer (.day y m d))
theorem ok_tell_day (T : Txt K mg aL aT aH) (D : Dfn K mg "tell_day" s_tell_day) (C_is_date : Cal P w K mg base CX0 3 "is_date" sp_is_date) (C_day_of : Cal P w K mg base CX0 4 "day_of" sp_day_of) : Cal P w K mg base CX0 5 "tell_day" sp_tell_day := by
  refine cal0 D sc_tell_day lIII (fun _ _ _ _ _ _ us hl => match us, hl with | [_, _, _], _ => rfl) fun f cdv A outer s H vs Q E hr h => ?_
  obtain ⟨y, m, d, rfl, q⟩ := h
  refine ⟨_, (pss_cons (ps_if (pt_not (pt_val (pe_f C_is_date hr (by decide) (pa_cons (pv 0) (pa_cons (pv 1) (pa_cons (pv 2) pa_nil)))))) (pss_one (ps_ret (pe_lst (pa_cons (pe_k T.c_WRONG) pa_nil)))) pss_nil)
    (pss_one (ps_ret (pe_lst (pa_cons pe_int (pa_cons (pe_f C_day_of hr (by decide) (pa_cons (pv 0) (pa_cons (pv 1) (pa_cons (pv 2) pa_nil)))) pa_nil)))))), ?_⟩
  rw [a_day] at q
  walk_at "ag rd"
  refine of_not (fun z => ?_) (fun z => ?_)
  · rw [z, if_neg (by decide)] at q
    walk_at "ag rd"
    exact ans_lst q (Same.refl _) (by decide)
  · rw [z, if_pos rfl] at q
    have hm : 1 ≤ m ∧ m ≤ 12 := by
      unfold isDateI isMonthI at z
      simp only [Bool.and_eq_true, decide_eq_true_eq] at z
      exact z.1.2
    walk_at "ag rd"
    refine ⟨hm.1, hm.2, fun H1 s1 => ?_⟩
    exact ans_lst q s1 (by show 2 ≤ 16777216; decide)

abbrev s_tell_date : Stmt := topS 86
abbrev N_tell_date : List Str := ["n", "year", "month", "day"]
theorem sc_tell_date : FnScope N_tell_date ["n"] (defScope s_tell_date) := ⟨rfl, rfl, rfl, by decide +kernel, rfl, by decide +kernel, by decide +kernel⟩
def sp_tell_date : Sp := sI fun n H Q _ => ans H Q (AgeSpec.answer (.date n))
theorem ok_tell_date (T : Txt K mg aL aT aH) (D : Dfn K mg "tell_date" s_tell_date) (C_is_day : Cal P w K mg base CX0 1 "is_day" sp_is_day) (C_date_of : Cal P w K mg base CX0 4 "date_of" sp_date_of) (C_weekday_of : Cal P w K mg base CX0 1 "weekday_of" sp_weekday_of) : Cal P w K mg base CX0 5 "tell_date" sp_tell_date := by
  refine cal0 D sc_tell_date lI (fun _ _ _ _ _ _ us hl => match us, hl with | [_], _ => rfl) fun f cdv A outer s H vs Q E hr h => ?_
  obtain ⟨n, rfl, q⟩ := h
  refine ⟨_, (pss_cons (ps_if (pt_not (pt_val (pe_f C_is_day hr (by decide) (pa_cons (pv 0) pa_nil)))) (pss_one (ps_ret (pe_lst (pa_cons (pe_k T.c_WRONG) pa_nil)))) pss_nil)
    (pss_cons (ps_asg (pe_f C_date_of hr (by decide) (pa_cons (pv 0) pa_nil)) (pg_tup (by rfl) (pgs_cons (pg_name (i := 1) sc_tell_date.nd rfl (Or.inl rfl)) (pgs_cons (pg_name (i := 2) sc_tell_date.nd rfl (Or.inl rfl)) (pgs_cons (pg_name (i := 3) sc_tell_date.nd rfl (Or.inl rfl)) pgs_nil)))))
    (pss_one (ps_ret (pe_lst (pa_cons pe_int (pa_cons (pv 1) (pa_cons (pv 2) (pa_cons (pv 3) (pa_cons (pe_f C_weekday_of hr (by decide) (pa_cons (pv 0) pa_nil)) pa_nil)))))))))), ?_⟩
  walk_at "ag rd"
  rcases day_cases n with ⟨z, e⟩ | ⟨k, z, e, rfl, h1, h2⟩
  · rw [a_date_no e] at q
    rw [z]
    refine of_not (fun _ => ?_) (fun z' => by cases z')
    walk_at "ag rd"
    exact ans_lst q (Same.refl _) (by decide)
  · rw [a_date e h1] at q
    rw [z]
    refine of_not (fun z' => by cases z') (fun _ => ?_)
    walk_at "ag rd"
    refine ⟨by omega, fun y m d H1 p1 hy hd s1 np1 e1 => ?_⟩
    obtain ⟨q1, q2, q3⟩ := dateOf_is h1 (by omega) hd
    rw [q1, q2, q3] at q
    refine ⟨p1, _, rfl, SqT.of e1, rfl, _, _, rfl, _, _, rfl, _, _, rfl, rfl, ?_⟩
    walk_at "ag rd"
    exact ans_lst q s1 (by show 5 ≤ 16777216; decide)

abbrev s_show : Stmt := topS 87
abbrev N_show : List Str := ["n"]
theorem sc_show : FnScope N_show ["n"] (defScope s_show) := ⟨rfl, rfl, rfl, by decide +kernel, rfl, by decide +kernel, by decide +kernel⟩
def sp_show : Sp := sI fun n H Q _ => ans H Q (AgeSpec.answer (.show_ n))
theorem cat0 {H H1 : Hp} {Q : VK} {r : List Int} {b p : Addr} (q : ans H Q (0 :: r)) (s : Same H H1) (hb : H1 b = some (.lst [.int 0])) (hp : H1 p = some (.lst (r.map V.int))) (hn : r.length ≤ 16000000) :
    ∃ (b' p' : Addr) (xs ys : List V), V.ref b = .ref b' ∧ V.ref p = .ref p' ∧ H1 b' = some (.lst xs) ∧ H1 p' = some (.lst ys) ∧ xs.length + ys.length ≤ sizeLine ∧ ∀ t, H1 t = none → Q (.ref t) (upd H1 t (.lst (xs ++ ys))) := by
  refine ⟨b, p, _, _, rfl, rfl, hb, hp, ?_, fun t ht => q _ t (s.new ht) (s.free ht) upd_same⟩
  refine small' _ ?_
  rw [List.length_map]
  show 1 + r.length ≤ 16777216
  omega
theorem ok_show (T : Txt K mg aL aT aH) (D : Dfn K mg "show" s_show) (C_is_day : Cal P w K mg base CX0 1 "is_day" sp_is_day) (C_write_date : Cal P w K mg base CX0 5 "write_date" sp_write_date) : Cal P w K mg base CX0 6 "show" sp_show := by
  refine cal0 D sc_show lI (fun _ _ _ _ _ _ us hl => match us, hl with | [_], _ => rfl) fun f cdv A outer s H vs Q E hr h => ?_
  obtain ⟨n, rfl, q⟩ := h
  refine ⟨_, (pss_cons (ps_if (pt_not (pt_val (pe_f C_is_day hr (by decide) (pa_cons (pv 0) pa_nil)))) (pss_one (ps_ret (pe_lst (pa_cons (pe_k T.c_WRONG) pa_nil)))) pss_nil)
    (pss_one (ps_ret (pe_op op_cat (pe_lst (pa_cons pe_int pa_nil)) (pe_f C_write_date hr (by decide) (pa_cons (pv 0) pa_nil)))))), ?_⟩
  walk_at "ag rd"
  rcases day_cases n with ⟨z, e⟩ | ⟨k, z, e, rfl, h1, h2⟩
  · rw [a_show_no e] at q
    rw [z]
    refine of_not (fun _ => ?_) (fun z' => by cases z')
    walk_at "ag rd"
    exact ans_lst q (Same.refl _) (by decide)
  · rw [a_show e] at q
    rw [z]
    refine of_not (fun z' => by cases z') (fun _ => ?_)
    walk_at "ag rd"
    refine ⟨small' _ (by show 1 ≤ 16777216; decide), fun b hb => ?_⟩
    walk_at "ag rd"
    refine ⟨h1, h2, fun H1 p s1 np e1 => ?_⟩
    refine cat0 q ((same_new hb).trans s1) (s1 _ _ upd_same) e1 ?_
    unfold AgeSpec.bytesOut
    rw [List.length_map]
    show 10 ≤ 16000000
    decide

abbrev s_read : Stmt := topS 88
abbrev N_read : List Str := ["text", "fault"]
theorem sc_read : FnScope N_read ["text"] (defScope s_read) := ⟨rfl, rfl, rfl, by decide +kernel, rfl, by decide +kernel, by decide +kernel⟩
def sp_read (K : PySem.W.Frag) : Sp := sR fun a H Q _ => ∃ ns : List Int, SqL K H a (ns.map V.int) ∧ ans H Q (told1 (rdDate ns))
theorem ok_read (T : Txt K mg aL aT aH) (TF : FauTxt K mg C fI) (D : Dfn K mg "read" s_read) (C_read_date : Cal P w K mg base (L2.CX P w) 5 "read_date" (sp_read_date K C)) : Cal P w K mg base CX0 6 "read" (sp_read K) := by
  refine cal0 D sc_read lR (fun _ _ _ _ _ _ us hl => match us, hl with | [_], _ => rfl) fun f cdv A outer s H vs Q E hr h => ?_
  obtain ⟨a, rfl, ns, hS, q⟩ := h
  refine ⟨_, (pss_one (ps_try_as (i := 1) (Wout := fun _ _ _ _ => False) rfl rfl sc_read.nd rfl rfl ⟨rfl, by decide, Or.inl TF.gC⟩ takes0
    (fun W pn xe tk _ => (pss_one (ps_ret (pe_lst (pa_cons pe_int (pa_cons (pe_fX C_read_date tk hr (by decide) (pa_cons (pv 0) pa_nil)) pa_nil))))))
    (fun a oe cls d pn hz hf => (pss_one (ps_ret (pe_lst (pa_cons (pe_k T.c_FAULTY) (pa_cons (pe_fld2 TF hz hf (pv 1) k_kind) (pa_cons (pe_fld2 TF hz hf (pv 1) k_place) pa_nil))))))))), ?_⟩
  walk_at "ag rd"
  refine ⟨ns, hS, ?_⟩
  cases hr' : rdDate ns with
  | ok d =>
    rw [hr'] at q
    intro H1 s1
    exact ans_lst q s1 (by show 2 ≤ 16777216; decide)
  | error e =>
    rw [hr'] at q
    intro H1 dd s1 ed
    refine ⟨true, TF.te, fun _ a0 h0 => ?_, fun z => Bool.noConfusion z⟩
    walk_at "ag rd"
    refine ⟨dd, e.1, e.2, rfl, ed, ?_⟩
    walk_at "ag rd"
    refine ⟨dd, e.1, e.2, rfl, ed, ?_⟩
    exact ans_lst q s1 (by show 3 ≤ 16777216; decide)

abbrev s_nth : Stmt := topS 89
abbrev N_nth : List Str := ["y", "m", "k", "w", "n"]
theorem sc_nth : FnScope N_nth ["y", "m", "k", "w"] (defScope s_nth) := ⟨rfl, rfl, rfl, by decide +kernel, rfl, by decide +kernel, by decide +kernel⟩
def sp_nth : Sp := sIIII fun y m k v H Q _ => ans H Q (AgeSpec.answer (.nth y m k v))
theorem ok_nth (T : Txt K mg aL aT aH) (D : Dfn K mg "nth" s_nth) (C_is_month : Cal P w K mg base CX0 1 "is_month" sp_is_month) (C_last_weekday : Cal P w K mg base CX0 5 "last_weekday" sp_last_weekday) (C_first_weekday : Cal P w K mg base CX0 5 "first_weekday" sp_first_weekday)
    (C_day_of : Cal P w K mg base CX0 4 "day_of" sp_day_of) (C_month_length : Cal P w K mg base CX0 2 "month_length" sp_month_length) : Cal P w K mg base CX0 6 "nth" sp_nth := by
  refine cal0 D sc_nth lIIII (fun _ _ _ _ _ _ us hl => match us, hl with | [_, _, _, _], _ => rfl) fun f cdv A outer s H vs Q E hr h => ?_
  obtain ⟨y, m, k, v, rfl, q⟩ := h
  refine ⟨_, (pss_cons (ps_if (PW.pt (pw_or (pt_not (pt_val (pe_f C_is_month hr (by decide) (pa_cons (pv 0) (pa_cons (pv 1) pa_nil))))) (pw_or (pt_not (pt_chain op_le op_le pe_int (pv 2) pe_int)) (pw_or1 (pt_not (pt_chain op_le op_le pe_int (pv 3) pe_int)))))) (pss_one (ps_ret (pe_lst (pa_cons (pe_k T.c_WRONG) pa_nil)))) pss_nil)
    (pss_cons (ps_if (pt_cmpR op_eq (pv 2) pe_int (nomark _)) (pss_one (ps_ret (pe_lst (pa_cons pe_int (pa_cons (pe_f C_last_weekday hr (by decide) (pa_cons (pv 0) (pa_cons (pv 1) (pa_cons (pv 3) pa_nil)))) pa_nil))))) pss_nil)
    (pss_cons (ps_set (i := 4) sc_nth.nd rfl (Or.inl rfl) (pe_op op_add (pe_f C_first_weekday hr (by decide) (pa_cons (pv 0) (pa_cons (pv 1) (pa_cons (pv 3) pa_nil)))) (pe_op op_mul pe_int (pe_op op_sub (pv 2) pe_int))))
    (pss_cons (ps_if (pt_cmpR op_gt (pv 4) (pe_f C_day_of hr (by decide) (pa_cons (pv 0) (pa_cons (pv 1) (pa_cons (pe_f C_month_length hr (by decide) (pa_cons (pv 0) (pa_cons (pv 1) pa_nil))) pa_nil)))) (nomark _)) (pss_one (ps_ret (pe_lst (pa_cons (pe_k T.c_NOTHING_SUCH) pa_nil)))) pss_nil)
    (pss_one (ps_ret (pe_lst (pa_cons pe_int (pa_cons (pv 4) pa_nil))))))))), ?_⟩
  have wrong : ¬ (isMonthI y m = true ∧ (0 ≤ k ∧ k ≤ 5) ∧ (1 ≤ v ∧ v ≤ 7)) → ∀ H1, Same H H1 → ([-1].map V.int).length ≤ sizeLine ∧ ∀ p, H1 p = none → Q (.ref p) (upd H1 p (.lst ([-1].map V.int))) := fun c H1 s1 => by
    rw [a_nth_no c] at q
    exact ans_lst q s1 (by decide)
  walk_at "ag rd"
  refine of_not (fun z => ?_) (fun z => ?_)
  · walk_at "ag rd"
    exact wrong (fun c => by rw [c.1] at z; cases z) _ (Same.refl _)
  walk_at "ag rd"
  refine of_decide (fun c1 => ?_) (fun c1 => ?_)
  rotate_left
  · walk_at "ag rd"
    refine iteT ?_
    refine iteT ?_
    walk_at "ag rd"
    exact wrong (fun c => c1 c.2.1.1) _ (Same.refl _)
  walk_at "ag rd"
  refine of_not (fun c2 => ?_) (fun c2 => ?_)
  · have c2' := of_decide_eq_false c2
    refine iteT ?_
    walk_at "ag rd"
    exact wrong (fun c => c2' c.2.1.2) _ (Same.refl _)
  have c2' := of_decide_eq_true c2
  walk_at "ag rd"
  refine of_decide (fun c3 => ?_) (fun c3 => ?_)
  rotate_left
  · walk_at "ag rd"
    refine iteT ?_
    walk_at "ag rd"
    exact wrong (fun c => c3 c.2.2.1) _ (Same.refl _)
  walk_at "ag rd"
  refine of_not (fun c4 => ?_) (fun c4 => ?_)
  · have c4' := of_decide_eq_false c4
    walk_at "ag rd"
    exact wrong (fun c => c4' c.2.2.2) _ (Same.refl _)
  have c4' := of_decide_eq_true c4
  rw [a_nth z ⟨c1, c2'⟩ ⟨c3, c4'⟩] at q
  unfold nthI at q
  have hm : 1 ≤ m ∧ m ≤ 12 := by
    unfold isMonthI at z
    simp only [Bool.and_eq_true, decide_eq_true_eq] at z
    exact z.2
  walk_at "ag rd"
  refine of_eqI (fun y0 => ?_) (fun y0 => ?_)
  · rw [if_pos y0] at q
    walk_at "ag rd"
    refine ⟨hm.1, hm.2, fun H1 s1 => ?_⟩
    exact ans_lst q s1 (by show 2 ≤ 16777216; decide)
  · rw [if_neg y0] at q
    walk_at "ag rd"
    refine ⟨hm.1, hm.2, fun H1 s1 => ?_⟩
    walk_at "ag rd"
    refine ⟨.inl ⟨by decide, by decide⟩, ?_⟩
    walk_at "ag rd"
    refine ⟨hm.1, hm.2, ?_⟩
    walk_at "ag rd"
    refine ⟨hm.1, hm.2, fun H2 s2 => ?_⟩
    walk_at "ag rd"
    refine of_decide (fun g => ?_) (fun g => ?_)
    · rw [if_pos g] at q
      walk_at "ag rd"
      exact ans_lst q (s1.trans s2) (by decide)
    · rw [if_neg g] at q
      walk_at "ag rd"
      exact ans_lst q (s1.trans s2) (by show 2 ≤ 16777216; decide)

/-! ### ages -/
abbrev s_tell_age : Stmt := topS 69
abbrev N_tell_age : List Str := ["text", "fault"]
theorem sc_tell_age : FnScope N_tell_age ["text"] (defScope s_tell_age) := ⟨rfl, rfl, rfl, by decide +kernel, rfl, by decide +kernel, by decide +kernel⟩
def sp_tell_age (K : PySem.W.Frag) : Sp := sR fun a H Q _ => ∃ ns : List Int, SqL K H a (ns.map V.int) ∧ ns.length ≤ 200 ∧ ans H Q (toldL (rdAge ns))
theorem rdAge_len {ns l : List Int} (h : rdAge ns = .ok l) : l.length = 5 := by
  unfold rdAge at h
  split at h
  · cases h
  · split at h
    · unfold nothingI at h
      split at h
      · cases h
      · split at h
        · cases h
        · split at h
          · cases h
          · rw [← Except.ok.inj h]; rfl
    · split at h
      · cases h
      · rename_i us p hu
        obtain ⟨u4, _⟩ := unitsI_ok ns _ _ _ _ _ _ hu
        split at h
        · cases h
        · rw [← Except.ok.inj h, List.length_append, u4]; rfl
theorem ok_tell_age (T : Txt K mg aL aT aH) (TF : FauTxt K mg C fI) (D : Dfn K mg "tell_age" s_tell_age) (C_read_age : Cal P w K mg base (L2.CX P w) 6 "read_age" (sp_read_age K C)) : Cal P w K mg base CX0 7 "tell_age" (sp_tell_age K) := by
  refine cal0 D sc_tell_age lR (fun _ _ _ _ _ _ us hl => match us, hl with | [_], _ => rfl) fun f cdv A outer s H vs Q E hr h => ?_
  obtain ⟨a, rfl, ns, hS, hn, q⟩ := h
  refine ⟨_, (pss_one (ps_try_as (i := 1) (Wout := fun _ _ _ _ => False) rfl rfl sc_tell_age.nd rfl rfl ⟨rfl, by decide, Or.inl TF.gC⟩ takes0
    (fun W pn xe tk _ => (pss_one (ps_ret (pe_op op_cat (pe_lst (pa_cons pe_int pa_nil)) (pe_fX C_read_age tk hr (by decide) (pa_cons (pv 0) pa_nil))))))
    (fun a oe cls d pn hz hf => (pss_one (ps_ret (pe_lst (pa_cons (pe_k T.c_FAULTY) (pa_cons (pe_fld2 TF hz hf (pv 1) k_kind) (pa_cons (pe_fld2 TF hz hf (pv 1) k_place) pa_nil))))))))), ?_⟩
  walk_at "ag rd"
  refine ⟨small' _ (by show 1 ≤ 16777216; decide), fun b hb => ?_⟩
  walk_at "ag rd"
  refine ⟨ns, (same_new hb).seq hS, hn, ?_⟩
  cases hr' : rdAge ns with
  | ok l =>
    have l5 := rdAge_len hr'
    rw [hr'] at q
    intro H1 p s1 np e1
    exact cat0 q ((same_new hb).trans s1) (s1 _ _ upd_same) e1 (by omega)
  | error e =>
    rw [hr'] at q
    intro H1 dd s1 ed
    refine ⟨true, TF.te, fun _ a0 h0 => ?_, fun z => Bool.noConfusion z⟩
    walk_at "ag rd"
    refine ⟨dd, e.1, e.2, rfl, ed, ?_⟩
    walk_at "ag rd"
    refine ⟨dd, e.1, e.2, rfl, ed, ?_⟩
    exact ans_lst q ((same_new hb).trans s1) (by show 3 ≤ 16777216; decide)

abbrev s_write : Stmt := topS 70
abbrev N_write : List Str := ["age"]
theorem sc_write : FnScope N_write ["age"] (defScope s_write) := ⟨rfl, rfl, rfl, by decide +kernel, rfl, by decide +kernel, by decide +kernel⟩
def toldW (a : List Int) : List Int := match AgeSpec.ageOf a with
  | some A => 0 :: writeI A
  | none => [-1]
theorem write_len {A : Age} (h : Okp A) : (writeI A).length ≤ 40 := by
  have a := wr_len h 4 (by decide)
  have b := dec_len h.s
  unfold writeI
  split
  · decide
  · split
    · omega
    · simp only [List.length_append, List.length_cons, List.length_nil]
      omega
def sp_write (K : PySem.W.Frag) : Sp := sR fun a H Q _ => ∃ ns : List Int, SqL K H a (ns.map V.int) ∧ ans H Q (toldW ns)
theorem ok_write (T : Txt K mg aL aT aH) (D : Dfn K mg "write" s_write) (C_is_age : Cal P w K mg base CX0 1 "is_age" (sp_is_age K)) (C_write_age : Cal P w K mg base CX0 2 "write_age" (sp_write_age K)) : Cal P w K mg base CX0 3 "write" (sp_write K) := by
  refine cal0 D sc_write lR (fun _ _ _ _ _ _ us hl => match us, hl with | [_], _ => rfl) fun f cdv A outer s H vs Q E hr h => ?_
  obtain ⟨a, rfl, ns, hS, q⟩ := h
  refine ⟨_, (pss_cons (ps_if (pt_not (pt_val (pe_f C_is_age hr (by decide) (pa_cons (pv 0) pa_nil)))) (pss_one (ps_ret (pe_lst (pa_cons (pe_k T.c_WRONG) pa_nil)))) pss_nil)
    (pss_one (ps_ret (pe_op op_cat (pe_lst (pa_cons pe_int pa_nil)) (pe_f C_write_age hr (by decide) (pa_cons (pv 0) pa_nil)))))), ?_⟩
  walk_at "ag rd"
  refine ⟨ns, hS, fun H1 s1 => ?_⟩
  walk_at "ag rd"
  unfold toldW at q
  rcases age_cases ns with ⟨z, e⟩ | ⟨A, z, e, rfl, hA⟩
  · rw [e] at q
    rw [z]
    refine of_not (fun _ => ?_) (fun z' => by cases z')
    walk_at "ag rd"
    exact ans_lst q s1 (by decide)
  · rw [e] at q
    rw [z]
    refine of_not (fun z' => by cases z') (fun _ => ?_)
    walk_at "ag rd"
    refine ⟨small' _ (by show 1 ≤ 16777216; decide), fun b hb => ?_⟩
    walk_at "ag rd"
    refine ⟨A, hA, (s1.new hb).seq hS, fun H2 p s2 np e2 => ?_⟩
    have := write_len hA
    exact cat0 q ((s1.new hb).trans s2) (s2 _ _ upd_same) e2 (by omega)

abbrev s_on : Stmt := topS 71
abbrev N_on : List Str := ["b", "age", "n"]
theorem sc_on : FnScope N_on ["b", "age"] (defScope s_on) := ⟨rfl, rfl, rfl, by decide +kernel, rfl, by decide +kernel, by decide +kernel⟩
def sp_on (K : PySem.W.Frag) : Sp := sIR fun b a H Q _ => ∃ ns : List Int, SqL K H a (ns.map V.int) ∧ ans H Q (AgeSpec.answer (.on ns b))
theorem ok_on (T : Txt K mg aL aT aH) (D : Dfn K mg "on" s_on) (C_is_day : Cal P w K mg base CX0 1 "is_day" sp_is_day) (C_is_age : Cal P w K mg base CX0 1 "is_age" (sp_is_age K)) (C_day_reached : Cal P w K mg base CX0 7 "day_reached" (sp_day_reached K)) : Cal P w K mg base CX0 8 "on" (sp_on K) := by
  refine cal0 D sc_on lIR (fun _ _ _ _ _ _ us hl => match us, hl with | [_, _], _ => rfl) fun f cdv A outer s H vs Q E hr h => ?_
  obtain ⟨b, a, rfl, ns, hS, q⟩ := h
  refine ⟨_, (pss_cons (ps_if (PW.pt (pw_or (pt_not (pt_val (pe_f C_is_day hr (by decide) (pa_cons (pv 0) pa_nil)))) (pw_or1 (pt_not (pt_val (pe_f C_is_age hr (by decide) (pa_cons (pv 1) pa_nil))))))) (pss_one (ps_ret (pe_lst (pa_cons (pe_k T.c_WRONG) pa_nil)))) pss_nil)
    (pss_cons (ps_set (i := 2) sc_on.nd rfl (Or.inl rfl) (pe_f C_day_reached hr (by decide) (pa_cons (pv 0) (pa_cons (pv 1) pa_nil))))
    (pss_one (ps_ret (pe_ifExp (pt_cmpR op_ne (pv 2) pe_int (nomark _)) (pe_lst (pa_cons pe_int (pa_cons (pv 2) pa_nil))) (pe_lst (pa_cons (pe_k T.c_NOTHING_SUCH) pa_nil))))))), ?_⟩
  walk_at "ag rd"
  rcases day_cases b with ⟨z, e⟩ | ⟨k, z, e, rfl, h1, h2⟩
  · rw [a_on_no (.inr e)] at q
    rw [z]
    refine of_not (fun _ => ?_) (fun z' => by cases z')
    walk_at "ag rd"
    exact ans_lst q (Same.refl _) (by decide)
  · rw [z]
    refine of_not (fun z' => by cases z') (fun _ => ?_)
    walk_at "ag rd"
    refine ⟨ns, hS, fun H1 s1 => ?_⟩
    walk_at "ag rd"
    rcases age_cases ns with ⟨z', e'⟩ | ⟨A, z', e', rfl, hA⟩
    · rw [a_on_no (.inl e')] at q
      rw [z']
      refine of_not (fun _ => ?_) (fun z' => by cases z')
      walk_at "ag rd"
      exact ans_lst q s1 (by decide)
    · rw [a_on e' e] at q
      rw [z']
      refine of_not (fun z' => by cases z') (fun _ => ?_)
      walk_at "ag rd"
      refine ⟨k, A, rfl, h1, h2, s1.seq hS, fun H2 s2 => ?_⟩
      walk_at "ag rd"
      refine of_neI (fun c => ?_) (fun c => ?_)
      · rw [if_neg c] at q
        walk_at "ag rd"
        exact ans_lst q (s1.trans s2) (by show 2 ≤ 16777216; decide)
      · rw [if_pos c] at q
        walk_at "ag rd"
        exact ans_lst q (s1.trans s2) (by decide)

abbrev s_old : Stmt := topS 72
abbrev N_old : List Str := ["b", "n", "k"]
theorem sc_old : FnScope N_old ["b", "n"] (defScope s_old) := ⟨rfl, rfl, rfl, by decide +kernel, rfl, by decide +kernel, by decide +kernel⟩
def sp_old : Sp := sII fun b n H Q _ => ans H Q (AgeSpec.answer (.old b n))
theorem ok_old (T : Txt K mg aL aT aH) (D : Dfn K mg "old" s_old) (C_is_day : Cal P w K mg base CX0 1 "is_day" sp_is_day) (C_months_old : Cal P w K mg base CX0 6 "months_old" sp_months_old) (C_months_on : Cal P w K mg base CX0 5 "months_on" sp_months_on) : Cal P w K mg base CX0 7 "old" sp_old := by
  refine cal0 D sc_old lII (fun _ _ _ _ _ _ us hl => match us, hl with | [_, _], _ => rfl) fun f cdv A outer s H vs Q E hr h => ?_
  obtain ⟨b, n, rfl, q⟩ := h
  refine ⟨_, (pss_cons (ps_if (PW.pt (pw_or (pt_not (pt_val (pe_f C_is_day hr (by decide) (pa_cons (pv 0) pa_nil)))) (pw_or1 (pt_not (pt_val (pe_f C_is_day hr (by decide) (pa_cons (pv 1) pa_nil))))))) (pss_one (ps_ret (pe_lst (pa_cons (pe_k T.c_WRONG) pa_nil)))) pss_nil)
    (pss_cons (ps_if (pt_cmpR op_lt (pv 1) (pv 0) (nomark _)) (pss_one (ps_ret (pe_lst (pa_cons (pe_k T.c_NOTHING_SUCH) pa_nil)))) pss_nil)
    (pss_cons (ps_set (i := 2) sc_old.nd rfl (Or.inl rfl) (pe_f C_months_old hr (by decide) (pa_cons (pv 0) (pa_cons (pv 1) pa_nil))))
    (pss_one (ps_ret (pe_lst (pa_cons pe_int (pa_cons (pe_op op_fdiv (pv 2) (pe_k T.c_MONTHS)) (pa_cons (pe_op op_mod (pv 2) (pe_k T.c_MONTHS)) (pa_cons (pe_op op_sub (pv 1) (pe_f C_months_on hr (by decide) (pa_cons (pv 0) (pa_cons (pv 2) pa_nil)))) pa_nil)))))))))), ?_⟩
  walk_at "ag rd"
  rcases day_cases b with ⟨z, e⟩ | ⟨i, z, e, rfl, h1, h2⟩
  · rw [a_old_no (.inl e)] at q
    rw [z]
    refine of_not (fun _ => ?_) (fun z' => by cases z')
    walk_at "ag rd"
    exact ans_lst q (Same.refl _) (by decide)
  rw [z]
  refine of_not (fun z' => by cases z') (fun _ => ?_)
  walk_at "ag rd"
  rcases day_cases n with ⟨z2, e2⟩ | ⟨j, z2, e2, rfl, h3, h4⟩
  · rw [a_old_no (.inr e2)] at q
    rw [z2]
    refine of_not (fun _ => ?_) (fun z' => by cases z')
    walk_at "ag rd"
    exact ans_lst q (Same.refl _) (by decide)
  rw [z2]
  refine of_not (fun z' => by cases z') (fun _ => ?_)
  rw [a_old e e2] at q
  walk_at "ag rd"
  refine of_decide (fun c => ?_) (fun c => ?_)
  · rw [if_pos (by omega)] at q
    walk_at "ag rd"
    exact ans_lst q (Same.refl _) (by decide)
  · rw [if_neg (by omega)] at q
    walk_at "ag rd"
    refine ⟨h1, by omega, h4, fun H1 s1 => ?_⟩
    have hm : mo i (AgeSpec.monthsOld i j (AgeSpec.monthsMost i j)) ≤ j := old_le h1 (by omega) (by omega)
    generalize AgeSpec.monthsOld i j (AgeSpec.monthsMost i j) = k at *
    walk_at "ag rd"
    refine ⟨h1, h2, fun H2 s2 => ?_⟩
    have e1 : ((k / 12 : Nat) : Int) = (k : Int) / 12 := by omega
    have e2 : ((k % 12 : Nat) : Int) = (k : Int) % 12 := by omega
    have e3 : ((j - mo i k : Nat) : Int) = (j : Int) - (mo i k : Nat) := by omega
    rw [e1, e2, e3] at q
    walk_at "ag rd"
    exact ans_lst q (s1.trans s2) (by show 4 ≤ 16777216; decide)

abbrev s_row : Stmt := topS 73
abbrev N_row : List Str := ["age", "days", "b"]
theorem sc_row : FnScope N_row ["age", "days"] (defScope s_row) := ⟨rfl, rfl, rfl, by decide +kernel, rfl, by decide +kernel, by decide +kernel⟩
def sp_row (K : PySem.W.Frag) : Sp := sRR fun a c H Q _ => ∃ ns bs : List Int, SqL K H a (ns.map V.int) ∧ SqL K H c (bs.map V.int) ∧ bs.length ≤ 100 ∧ ans H Q (AgeSpec.answer (.row ns bs))
theorem ok_row (T : Txt K mg aL aT aH) (D : Dfn K mg "row" s_row) (C_is_day : Cal P w K mg base CX0 1 "is_day" sp_is_day) (C_is_age : Cal P w K mg base CX0 1 "is_age" (sp_is_age K)) (C_day_reached : Cal P w K mg base CX0 7 "day_reached" (sp_day_reached K)) : Cal P w K mg base CX0 8 "row" (sp_row K) := by
  refine cal0 D sc_row lRR (fun _ _ _ _ _ _ us hl => match us, hl with | [_, _], _ => rfl) fun f cdv A outer s H vs Q E hr h => ?_
  obtain ⟨a, c, rfl, ns, bs, hS, hB, hn, q⟩ := h
  refine ⟨_, (pss_cons (ps_if (PW.pt (pw_or (pt_not (pt_val (pe_f C_is_age hr (by decide) (pa_cons (pv 0) pa_nil)))) (pw_or (pt_cmpR op_gt (pe_callB call_len_seq (by rfl) T.fr.n_len (by decide +kernel) (pa_cons (pv 1) pa_nil)) (pe_k T.c_MOST_IN_ROW) (nomark _)) (pw_or1 (pt_not (pt_val (pe_callB (cr_all rfl) (by rfl) T.fr.n_all (by decide +kernel) (pa_cons (pe_lc (own := [("b", 2)]) (g := gName 2) (tt := tYes) (by rfl) sc_row.nd (pi_list (pv 1)) (blkOk_by (own := [("b", 2)]) (N := N_row) (sc := defScope s_row) (by decide +kernel)) (fun _ _ _ _ _ => pg_name (i := 2) sc_row.nd rfl (Or.inl rfl)) (fun _ _ _ _ _ => pts_nil) (fun _ _ _ _ _ => (pe_f C_is_day hr (by decide) (pa_cons (pv 2) pa_nil)))) pa_nil)))))))) (pss_one (ps_ret (pe_lst (pa_cons (pe_k T.c_WRONG) pa_nil)))) pss_nil)
    (pss_one (ps_ret (pe_op op_cat (pe_lst (pa_cons pe_int pa_nil)) (pe_lc (own := [("b", 2)]) (g := gName 2) (tt := tYes) (by rfl) sc_row.nd (pi_list (pv 1)) (blkOk_by (own := [("b", 2)]) (N := N_row) (sc := defScope s_row) (by decide +kernel)) (fun _ _ _ _ _ => pg_name (i := 2) sc_row.nd rfl (Or.inl rfl)) (fun _ _ _ _ _ => pts_nil) (fun _ _ _ _ _ => (pe_f C_day_reached hr (by decide) (pa_cons (pv 2) (pa_cons (pv 0) pa_nil))))))))), ?_⟩
  walk_at "ag rd"
  refine ⟨ns, hS, fun H1 s1 => ?_⟩
  walk_at "ag rd"
  rcases age_cases ns with ⟨z, e⟩ | ⟨A, z, e, rfl, hA⟩
  · rw [a_row_no (.inl z)] at q
    rw [z]
    refine of_not (fun _ => ?_) (fun z' => by cases z')
    walk_at "ag rd"
    exact ans_lst q s1 (by decide)
  rw [z]
  refine of_not (fun z' => by cases z') (fun _ => ?_)
  walk_at "ag rd"
  refine ⟨_, _, rfl, .inl (s1.seq hB), ?_⟩
  walk_at "ag rd"
  rw [ml]
  refine of_decide (fun y => ?_) (fun y => ?_)
  · rw [a_row_no (.inr (.inl (by omega)))] at q
    walk_at "ag rd"
    exact ans_lst q s1 (by decide)
  walk_at "ag rd"
  refine ⟨⟨_, s1.seq hB⟩, fun Dn hD => ?_⟩
  refine lc_map walk_list (fun j => .int (bs.getD j 0)) (fun j => .bl (isDayI (bs.getD j 0))) lst_Y hD (small _ (by rw [List.length_map]; omega)) (fun H2 s2 => (s1.trans s2).seq hB) (fun _ => rfl) (fun j Hj hj sj Qj qj => ?_) (fun H2 s2 e2 => ?_)
  · walk_at "ag rd"
    exact qj Hj (Same.refl _)
  · have s3 : Same H H2 := s1.trans s2
    refine ⟨Dn, bs.map isDayI, rfl, SqL.of ?_, ?_⟩
    · rw [e2, List.length_map, List.map_map]
      exact congrArg (fun z => some (HO.lst z)) (range_getD (fun b => V.bl (isDayI b)))
    have ea : (bs.map isDayI).all id = bs.all isDayI := by
      rw [List.all_map]
      rfl
    rw [ea]
    walk_at "ag rd"
    refine of_not (fun x => ?_) (fun x => ?_)
    · rw [a_row_no (.inr (.inr x))] at q
      walk_at "ag rd"
      exact ans_lst q s3 (by decide)
    rw [a_row e (by omega) x] at q
    walk_at "ag rd"
    refine ⟨small' _ (by show 1 ≤ 16777216; decide), fun b hb => ?_⟩
    have s4 := s3.new (o := .lst [.int 0]) hb
    have eb : upd H2 b (.lst [.int 0]) b = some (.lst [.int 0]) := upd_same
    generalize upd H2 b (.lst [.int 0]) = H3 at *
    walk_at "ag rd"
    refine ⟨⟨_, s4.seq hB⟩, fun Dm hE => ?_⟩
    refine lc_map walk_list (fun j => .int (bs.getD j 0)) (fun j => .int (AgeSpec.dayOut (A.on (bs.getD j 0).toNat))) lst_Y hE (small _ (by rw [List.length_map]; omega)) (fun H4 s5 => (s4.trans s5).seq hB) (fun _ => rfl) (fun j Hj hj sj Qj qj => ?_) (fun H4 s5 e4 => ?_)
    · rw [List.length_map] at hj
      have hx := List.all_eq_true.mp x bs[j] (List.getElem_mem hj)
      have ej : bs.getD j 0 = bs[j] := by rw [List.getD_eq_getElem?_getD, List.getElem?_eq_getElem hj]; rfl
      rcases day_cases bs[j] with ⟨d0, _⟩ | ⟨k, _, _, d3, d4, d5⟩
      · rw [hx] at d0; cases d0
      walk_at "ag rd"
      refine ⟨(bs.getD j 0).toNat, A, by omega, by omega, by omega, (s4.trans sj).seq hS, fun H5 s6 => qj H5 s6⟩
    · refine cat0 (r := bs.map fun b => AgeSpec.dayOut (A.on b.toNat)) q (s4.trans s5) (s5 _ _ eb) ?_ (by rw [List.length_map]; omega)
      rw [e4, List.length_map, List.map_map]
      exact congrArg (fun z => some (HO.lst z)) (range_getD (fun b => V.int (AgeSpec.dayOut (A.on b.toNat))))

abbrev s_born : Stmt := topS 74
abbrev N_born : List Str := ["n", "age", "found"]
theorem sc_born : FnScope N_born ["n", "age"] (defScope s_born) := ⟨rfl, rfl, rfl, by decide +kernel, rfl, by decide +kernel, by decide +kernel⟩
def sp_born (K : PySem.W.Frag) : Sp := sIR fun n a H Q _ => ∃ ns : List Int, SqL K H a (ns.map V.int) ∧ ans H Q (AgeSpec.answer (.born ns n))
theorem ok_born (T : Txt K mg aL aT aH) (D : Dfn K mg "born" s_born) (C_is_day : Cal P w K mg base CX0 1 "is_day" sp_is_day) (C_is_age : Cal P w K mg base CX0 1 "is_age" (sp_is_age K)) (C_births : Cal P w K mg base CX0 7 "births" (sp_births K)) : Cal P w K mg base CX0 8 "born" (sp_born K) := by
  refine cal0 D sc_born lIR (fun _ _ _ _ _ _ us hl => match us, hl with | [_, _], _ => rfl) fun f cdv A outer s H vs Q E hr h => ?_
  obtain ⟨n, a, rfl, ns, hS, q⟩ := h
  refine ⟨_, (pss_cons (ps_if (PW.pt (pw_or (pt_not (pt_val (pe_f C_is_day hr (by decide) (pa_cons (pv 0) pa_nil)))) (pw_or1 (pt_not (pt_val (pe_f C_is_age hr (by decide) (pa_cons (pv 1) pa_nil))))))) (pss_one (ps_ret (pe_lst (pa_cons (pe_k T.c_WRONG) pa_nil)))) pss_nil)
    (pss_cons (ps_set (i := 2) sc_born.nd rfl (Or.inl rfl) (pe_f C_births hr (by decide) (pa_cons (pv 0) (pa_cons (pv 1) pa_nil))))
    (pss_one (ps_ret (pe_op op_cat (pe_lst (pa_cons pe_int (pa_cons (pe_callB call_len_seq (by rfl) T.fr.n_len (by decide +kernel) (pa_cons (pv 2) pa_nil)) pa_nil))) (pv 2)))))), ?_⟩
  walk_at "ag rd"
  rcases day_cases n with ⟨z, e⟩ | ⟨k, z, e, rfl, h1, h2⟩
  · rw [a_born_no (.inr e)] at q
    rw [z]
    refine of_not (fun _ => ?_) (fun z' => by cases z')
    walk_at "ag rd"
    exact ans_lst q (Same.refl _) (by decide)
  rw [z]
  refine of_not (fun z' => by cases z') (fun _ => ?_)
  walk_at "ag rd"
  refine ⟨ns, hS, fun H1 s1 => ?_⟩
  walk_at "ag rd"
  rcases age_cases ns with ⟨z', e'⟩ | ⟨A, z', e', rfl, hA⟩
  · rw [a_born_no (.inl e')] at q
    rw [z']
    refine of_not (fun _ => ?_) (fun z' => by cases z')
    walk_at "ag rd"
    exact ans_lst q s1 (by decide)
  rw [a_born e' e] at q
  rw [z']
  refine of_not (fun z' => by cases z') (fun _ => ?_)
  walk_at "ag rd"
  refine ⟨k, A, rfl, h1, h2, hA.w, hA.d, hA.s, s1.seq hS, fun H2 p s2 np e2 => ?_⟩
  have hb := births_len (n := k) hA
  walk_at "ag rd"
  refine ⟨_, _, rfl, .inl (SqL.of e2), ?_⟩
  walk_at "ag rd"
  refine ⟨small' _ (by show 2 ≤ 16777216; decide), fun b hb2 => ?_⟩
  walk_at "ag rd"
  have npb : p ≠ b := ne_of_none e2 hb2
  refine ⟨b, p, [.int 0, .int ((AgeSpec.births A k).length : Nat)], ((AgeSpec.births A k).map fun (x : Nat) => (x : Int)).map V.int, rfl, rfl, ?_, ?_, ?_, fun t ht => ?_⟩
  · rw [upd_same, List.length_map, List.length_map]
  · rw [upd_ne npb]
    exact e2
  · refine small' _ ?_
    rw [List.length_map, List.length_map]
    show 2 + (AgeSpec.births A k).length ≤ 16777216
    omega
  · exact q _ t (((s1.trans s2).new hb2).new ht) (((s1.trans s2).new hb2).free ht) upd_same

abbrev s_are_births : Stmt := topS 75
abbrev N_are_births : List Str := ["lo", "hi"]
theorem sc_are_births : FnScope N_are_births ["lo", "hi"] (defScope s_are_births) := ⟨rfl, rfl, rfl, by decide +kernel, rfl, by decide +kernel, by decide +kernel⟩
def sp_are_births : Sp := sII fun lo hi H Q _ => Q (.bl (areB lo hi)) H
theorem ok_are_births (T : Txt K mg aL aT aH) (D : Dfn K mg "are_births" s_are_births) (C_is_day : Cal P w K mg base CX0 1 "is_day" sp_is_day) : Cal P w K mg base CX0 2 "are_births" sp_are_births := by
  refine cal0 D sc_are_births lII (fun _ _ _ _ _ _ us hl => match us, hl with | [_, _], _ => rfl) fun f cdv A outer s H vs Q E hr h => ?_
  obtain ⟨lo, hi, rfl, q⟩ := h
  refine ⟨_, (pss_one (ps_ret (pe_and (pe_f C_is_day hr (by decide) (pa_cons (pv 0) pa_nil)) (pe_and (pe_f C_is_day hr (by decide) (pa_cons (pv 1) pa_nil)) (pe_one (pe_chain op_le op_lt pe_int (pe_op op_sub (pv 1) (pv 0)) (pe_k T.c_MOST_BIRTHS))))))), ?_⟩
  unfold areB at q
  walk_at "ag rd"
  refine of_bool (fun c => ?_) (fun c => ?_)
  · rw [c, Bool.true_and] at q
    walk_at "ag rd"
    refine of_bool (fun c2 => ?_) (fun c2 => ?_)
    · rw [c2, Bool.true_and] at q
      walk_at "ag rd"
      refine of_decide (fun c3 => ?_) (fun c3 => ?_)
      · rw [decide_eq_true c3, Bool.true_and] at q
        walk_at "ag rd"
        exact q
      · rw [decide_eq_false c3] at q
        exact q
    · rw [c2] at q
      exact q
  · rw [c] at q
    exact q

abbrev s_sooner : Stmt := topS 76
abbrev N_sooner : List Str := ["lo", "hi", "age", "other", "answer", "group"]
theorem sc_sooner : FnScope N_sooner ["lo", "hi", "age", "other"] (defScope s_sooner) := ⟨rfl, rfl, rfl, by decide +kernel, rfl, by decide +kernel, by decide +kernel⟩
/-- the answer's numbers behind i of the groups -/
def accS (G : Nat → List Nat) : Nat → List Int
  | 0 => [0]
  | i + 1 => accS G i ++ [((G i).length : Int), ((G i).headD 0 : Nat)]
theorem accS_len (G : Nat → List Nat) : ∀ i : Nat, (accS G i).length = 1 + 2 * i
  | 0 => rfl
  | i + 1 => by
    show (accS G i ++ [_, _]).length = _
    rw [List.length_append, accS_len G i]
    show 1 + 2 * i + 2 = 1 + 2 * (i + 1)
    omega
/-- behind i groups -/
structure SoonAt (G : Nat → List Nat) (r p0 p1 p2 l : Addr) (H : Hp) (i : Nat) (H' : Hp) : Prop where
  same : Same H H'
  atr : H' r = some (.lst [.ref p0, .ref p1, .ref p2])
  at0 : H' p0 = some (.lst (nats (G 0)))
  at1 : H' p1 = some (.lst (nats (G 1)))
  at2 : H' p2 = some (.lst (nats (G 2)))
  atl : H' l = some (.lst ((accS G i).map V.int))
theorem SoonAt.grp {G : Nat → List Nat} {r p0 p1 p2 l : Addr} {H H' : Hp} {i : Nat} (s : SoonAt G r p0 p1 p2 l H i H') {y : V} (hi : [V.ref p0, .ref p1, .ref p2][i]? = some y) : ∃ g : Addr, y = .ref g ∧ H' g = some (.lst (nats (G i))) := by
  have hl : i < 3 := (List.getElem?_eq_some_iff.mp hi).1
  have : i = 0 ∨ i = 1 ∨ i = 2 := by omega
  rcases this with rfl | rfl | rfl
  · exact ⟨p0, (Option.some.inj hi).symm, s.at0⟩
  · exact ⟨p1, (Option.some.inj hi).symm, s.at1⟩
  · exact ⟨p2, (Option.some.inj hi).symm, s.at2⟩
def sp_sooner (K : PySem.W.Frag) : Sp := sIIRR fun lo hi a c H Q _ => ∃ ns ms : List Int, SqL K H a (ns.map V.int) ∧ SqL K H c (ms.map V.int) ∧ ans H Q (AgeSpec.answer (.sooner ns ms lo hi))
theorem ok_sooner (T : Txt K mg aL aT aH) (D : Dfn K mg "sooner" s_sooner) (C_are_births : Cal P w K mg base CX0 2 "are_births" sp_are_births) (C_is_age : Cal P w K mg base CX0 1 "is_age" (sp_is_age K)) (C_race : Cal P w K mg base CX0 8 "race" (sp_race K)) : Cal P w K mg base CX0 9 "sooner" (sp_sooner K) := by
  refine cal0 D sc_sooner lIIRR (fun _ _ _ _ _ _ us hl => match us, hl with | [_, _, _, _], _ => rfl) fun f cdv A outer s H vs Q E hr h => ?_
  obtain ⟨lo, hi, a, c, rfl, ns, ms, hS, hM, q⟩ := h
  refine ⟨_, (pss_cons (ps_if (PW.pt (pw_or (pt_not (pt_val (pe_f C_are_births hr (by decide) (pa_cons (pv 0) (pa_cons (pv 1) pa_nil))))) (pw_or (pt_not (pt_val (pe_f C_is_age hr (by decide) (pa_cons (pv 2) pa_nil)))) (pw_or1 (pt_not (pt_val (pe_f C_is_age hr (by decide) (pa_cons (pv 3) pa_nil)))))))) (pss_one (ps_ret (pe_lst (pa_cons (pe_k T.c_WRONG) pa_nil)))) pss_nil)
    (pss_cons (ps_set (i := 4) sc_sooner.nd rfl (Or.inl rfl) (pe_lst (pa_cons pe_int pa_nil)))
    (pss_cons (ps_for PassesOwn.never rfl (pi_list (pe_f C_race hr (by decide) (pa_cons (pv 0) (pa_cons (pv 1) (pa_cons (pv 2) (pa_cons (pv 3) pa_nil)))))) (pg_name (i := 5) sc_sooner.nd rfl (Or.inl rfl))
    (pss_cons (ps_expr (pe_bm PySem.F.plainAttrs_list PySem.F.slot_list_append PySem.F.type_list_append mt_append (pv 4) (pa_cons (pe_callB call_len_seq (by rfl) T.fr.n_len (by decide +kernel) (pa_cons (pv 5) pa_nil)) pa_nil)))
    (pss_one (ps_expr (pe_bm PySem.F.plainAttrs_list PySem.F.slot_list_append PySem.F.type_list_append mt_append (pv 4) (pa_cons (pe_ifExp (pt_cmpR op_gt (pe_callB call_len_seq (by rfl) T.fr.n_len (by decide +kernel) (pa_cons (pv 5) pa_nil)) pe_int (nomark _)) (pe_ix ix_list (pv 5) pe_int (fun _ _ => rfl)) pe_int) pa_nil))))))
    (pss_one (ps_ret (pv 4)))))), ?_⟩
  walk_at "ag rd"
  refine of_not (fun z => ?_) (fun z => ?_)
  · rw [a_sooner_no (.inl z)] at q
    walk_at "ag rd"
    exact ans_lst q (Same.refl _) (by decide)
  walk_at "ag rd"
  refine ⟨ns, hS, fun H1 s1 => ?_⟩
  walk_at "ag rd"
  rcases age_cases ns with ⟨z1, e1⟩ | ⟨A, z1, e1, rfl, hA⟩
  · rw [a_sooner_no (.inr (.inl e1))] at q
    rw [z1]
    refine of_not (fun _ => ?_) (fun z' => by cases z')
    walk_at "ag rd"
    exact ans_lst q s1 (by decide)
  rw [z1]
  refine of_not (fun z' => by cases z') (fun _ => ?_)
  walk_at "ag rd"
  refine ⟨ms, s1.seq hM, fun H2 s2 => ?_⟩
  walk_at "ag rd"
  rcases age_cases ms with ⟨z2, e2⟩ | ⟨C, z2, e2, rfl, hC⟩
  · rw [a_sooner_no (.inr (.inr e2))] at q
    rw [z2]
    refine of_not (fun _ => ?_) (fun z' => by cases z')
    walk_at "ag rd"
    exact ans_lst q (s1.trans s2) (by decide)
  rw [z2]
  refine of_not (fun z' => by cases z') (fun _ => ?_)
  have z' := z
  unfold areB at z'
  simp only [Bool.and_eq_true, decide_eq_true_eq] at z'
  obtain ⟨b1, b2, b3, b4⟩ := z'
  rcases day_cases lo with ⟨x1, _⟩ | ⟨i, _, _, rfl, x4, x5⟩
  · rw [x1] at b1; cases b1
  rcases day_cases hi with ⟨y1, _⟩ | ⟨j, _, _, rfl, y4, y5⟩
  · rw [y1] at b2; cases b2
  rw [a_sooner e1 e2 z] at q
  walk_at "ag rd"
  refine ⟨small' _ (by show 1 ≤ 16777216; decide), fun l hl => ?_⟩
  walk_at "ag rd"
  have s3 := (s1.trans s2).new (o := .lst [.int 0]) hl
  have fl : H l = none := (s1.trans s2).free hl
  have el : upd H2 l (.lst [.int 0]) l = some (.lst [.int 0]) := upd_same
  generalize upd H2 l (.lst [.int 0]) = H3 at *
  refine ⟨i, j, A, C, rfl, rfl, x4, by omega, y5, by omega, s3.seq hS, s3.seq hM, fun H4 r p0 p1 p2 s4 nr f0 f1 f2 er ep0 ep1 ep2 => ?_⟩
  have nr' : l ≠ r := ne_of_none el nr
  have n0 : l ≠ p0 := ne_of_none el f0
  have n1 : l ≠ p1 := ne_of_none el f1
  have n2 : l ≠ p2 := ne_of_none el f2
  have gl : ∀ g, (wh A C g i (j + 1 - i)).length ≤ 2000 := fun g => Nat.le_trans (wh_len A C g i (j + 1 - i)) (by omega)
  have e6 : [0, ((wh A C 0 i (j + 1 - i)).length : Int), ((wh A C 0 i (j + 1 - i)).headD 0 : Nat), ((wh A C 1 i (j + 1 - i)).length : Int), ((wh A C 1 i (j + 1 - i)).headD 0 : Nat), ((wh A C 2 i (j + 1 - i)).length : Int), ((wh A C 2 i (j + 1 - i)).headD 0 : Nat)] = accS (fun g => wh A C g i (j + 1 - i)) 3 := rfl
  rw [e6] at q
  have ep0' : H4 p0 = some (.lst (nats ((fun g => wh A C g i (j + 1 - i)) 0))) := ep0
  have ep1' : H4 p1 = some (.lst (nats ((fun g => wh A C g i (j + 1 - i)) 1))) := ep1
  have ep2' : H4 p2 = some (.lst (nats ((fun g => wh A C g i (j + 1 - i)) 2))) := ep2
  have gl' : ∀ g, ((fun g => wh A C g i (j + 1 - i)) g).length ≤ 2000 := gl
  generalize (fun g => wh A C g i (j + 1 - i)) = G at q ep0' ep1' ep2' gl'
  refine ⟨r, rfl, ⟨_, SqL.of er⟩, for_list (K := K) (a := r) (xs := [.ref p0, .ref p1, .ref p2])
    (fun n σ H' => ∃ x5, σ = [some (.int i), some (.int j), some (.ref a), some (.ref c), some (.ref l), x5] ∧ SoonAt G r p0 p1 p2 l H n H') ⟨none, rfl, ⟨s3.trans s4, er, ep0', ep1', ep2', s4 _ _ el⟩⟩ (fun n σ H' _ ⟨_, _, t⟩ => SqL.of t.atr) ?_ ?_⟩
  · rintro n y σ H' hn ⟨x5, rfl, t⟩
    obtain ⟨g, rfl, eg⟩ := t.grp hn
    have hn3 : n < 3 := (List.getElem?_eq_some_iff.mp hn).1
    have al := accS_len G n
    have gn := gl' n
    have ngl : l ≠ g := by
      have : n = 0 ∨ n = 1 ∨ n = 2 := by omega
      rcases this with rfl | rfl | rfl
      · rw [← V.ref.inj (Option.some.inj hn)]; exact n0
      · rw [← V.ref.inj (Option.some.inj hn)]; exact n1
      · rw [← V.ref.inj (Option.some.inj hn)]; exact n2
    have stp : ∀ H2, H2 = upd (upd H' l (.lst ((accS G n).map V.int ++ [.int ((G n).length : Nat)]))) l (.lst (((accS G n).map V.int ++ [.int ((G n).length : Nat)]) ++ [.int ((G n).headD 0 : Nat)])) → SoonAt G r p0 p1 p2 l H (n + 1) H2 := fun H2 eH => by
      subst eH
      refine ⟨(t.same.chg fl).chg fl, ?_, ?_, ?_, ?_, ?_⟩
      · rw [upd_ne (Ne.symm nr'), upd_ne (Ne.symm nr')]; exact t.atr
      · rw [upd_ne (Ne.symm n0), upd_ne (Ne.symm n0)]; exact t.at0
      · rw [upd_ne (Ne.symm n1), upd_ne (Ne.symm n1)]; exact t.at1
      · rw [upd_ne (Ne.symm n2), upd_ne (Ne.symm n2)]; exact t.at2
      · rw [upd_same]
        show _ = some (HO.lst ((accS G n ++ [((G n).length : Int), ((G n).headD 0 : Nat)]).map V.int))
        rw [List.map_append, List.append_assoc]
        rfl
    walk_at "ag rd"
    refine ⟨.inl ⟨rfl, _, SqL.of t.atl⟩, ?_⟩
    walk_at "ag rd"
    refine ⟨_, _, rfl, .inl (SqL.of eg), ?_⟩
    walk_at "ag rd"
    refine ⟨l, _, _, rfl, rfl, t.atl, ?_, ?_⟩
    · rw [List.length_map]
      exact small _ (by omega)
    walk_at "ag rd"
    have el2 : upd H' l (.lst ((accS G n).map V.int ++ [.int ((nats (G n)).length : Nat)])) l = some (.lst ((accS G n).map V.int ++ [.int ((nats (G n)).length : Nat)])) := upd_same
    have eg2 : upd H' l (.lst ((accS G n).map V.int ++ [.int ((nats (G n)).length : Nat)])) g = some (.lst (nats (G n))) := by rw [upd_ne (Ne.symm ngl)]; exact eg
    have eln : (nats (G n)).length = (G n).length := List.length_map ..
    refine ⟨.inl ⟨rfl, _, SqL.of el2⟩, ?_⟩
    walk_at "ag rd"
    refine ⟨_, _, rfl, .inl (SqL.of eg2), ?_⟩
    walk_at "ag rd"
    have hh : G n = [] ∨ ∃ x0 xr, G n = x0 :: xr := by
      cases G n with
      | nil => exact .inl rfl
      | cons x0 xr => exact .inr ⟨x0, xr, rfl⟩
    refine of_decide (fun y => ?_) (fun y => ?_)
    · rcases hh with hG | ⟨x0, xr, hG⟩
      · rw [hG] at y; exact absurd y (by decide)
      · walk_at "ag rd"
        refine ⟨g, _, _, _, rfl, rfl, SqL.of eg2, (atI_nat (j := 0) (by rw [hG]; rfl) : atI (nats (G n)) ((0 : Nat) : Int) = some (.int (x0 : Nat))), ?_⟩
        walk_at "ag rd"
        refine ⟨l, _, _, rfl, rfl, el2, ?_, ?_⟩
        · rw [List.length_append, List.length_map]
          exact small _ (by show (accS G n).length + 1 ≤ 16777215; omega)
        refine ⟨_, rfl, stp _ ?_⟩
        rw [eln, hG]
        rfl
    · rcases hh with hG | ⟨x0, xr, hG⟩
      rotate_left
      · rw [hG] at y; exact absurd (by show (0 : Int) < (((x0 :: xr).map _).length : Int); rw [List.length_map, List.length_cons]; omega) y
      · walk_at "ag rd"
        refine ⟨l, _, _, rfl, rfl, el2, ?_, ?_⟩
        · rw [List.length_append, List.length_map]
          exact small _ (by show (accS G n).length + 1 ≤ 16777215; omega)
        refine ⟨_, rfl, stp _ ?_⟩
        rw [eln, hG]
        rfl
  · rintro σ H' ⟨x5, rfl, t⟩
    walk_at "ag rd"
    exact q H' l t.same fl t.atl
end
end Ag

/-! Texts read and written: the mirror against the specification. -/
namespace Ag
open VxDay AgeSpec VxText

theorem B_in {ns : List Int} (h : NeutralIO.bytes ns = true) : bytesOut (AgeNeutral.bytesIn ns) = ns := by
  unfold bytesOut AgeNeutral.bytesIn
  rw [List.map_map]
  unfold NeutralIO.bytes at h
  have : ∀ x ∈ ns, ((fun (c : UInt8) => (c.toNat : Int)) ∘ fun (x : Int) => UInt8.ofNat x.toNat) x = x := fun x hx => by
    have q := List.all_eq_true.mp h x hx
    simp only [Bool.and_eq_true, decide_eq_true_eq] at q
    show (((UInt8.ofNat x.toNat).toNat : Nat) : Int) = x
    rw [ofNat_small (by omega)]
    omega
  have e := List.map_congr_left this
  rw [e]
  exact List.map_id'' (fun _ => rfl) ns
theorem dig_eq (c : UInt8) : digI (c.toNat : Int) = isDigit c := by
  unfold digI isDigit
  congr 1
  · refine decide_eq_decide.mpr ?_
    rw [UInt8.le_iff_toNat_le]
    show (48 : Int) ≤ _ ↔ 48 ≤ c.toNat
    omega
  · refine decide_eq_decide.mpr ?_
    rw [UInt8.le_iff_toNat_le]
    show _ ≤ (57 : Int) ↔ c.toNat ≤ 57
    omega
theorem byte_eq (c : UInt8) (k : Nat) (hk : k < 256) : ((c.toNat : Int) = (k : Int)) ↔ c = UInt8.ofNat k := by
  constructor
  · intro h
    have h' : c.toNat = k := by omega
    rw [← UInt8.toNat_inj, h', ofNat_small hk]
  · intro h
    rw [h, ofNat_small hk]
theorem B_at (b : Bytes) (p : Nat) : (bytesOut b)[p]? = (b.drop p).head?.map fun (c : UInt8) => (c.toNat : Int) := by
  unfold bytesOut
  rw [List.getElem?_map, List.head?_drop]
theorem B_drop (b : Bytes) (p : Nat) : (bytesOut b).drop p = bytesOut (b.drop p) := by
  unfold bytesOut
  rw [List.map_drop]
theorem B_take (b : Bytes) (p : Nat) : (bytesOut b).take p = bytesOut (b.take p) := by
  unfold bytesOut
  rw [List.map_take]
theorem B_len (b : Bytes) : (bytesOut b).length = b.length := by
  unfold bytesOut
  rw [List.length_map]
theorem run_eq (b : Bytes) (p : Nat) : run (bytesOut b) p = ((b.drop p).takeWhile isDigit).length := by
  unfold run
  rw [B_drop]
  unfold bytesOut
  rw [List.takeWhile_map, List.length_map]
  congr 2
  funext c
  exact dig_eq c
theorem slice_eq (b : Bytes) (p n : Nat) : slice (bytesOut b) p (p + n) = bytesOut ((b.drop p).take n) := by
  unfold slice
  rw [B_drop, B_take, Nat.add_sub_cancel_left]
theorem take_while {α : Type} (f : α → Bool) : ∀ l : List α, l.take (l.takeWhile f).length = l.takeWhile f
  | [] => rfl
  | x :: r => by
    rw [List.takeWhile_cons]
    cases f x with
    | true => exact congrArg (x :: ·) (take_while f r)
    | false => rfl
theorem all_while {α : Type} (f : α → Bool) : ∀ l : List α, (l.takeWhile f).all f = true
  | [] => rfl
  | x :: r => by
    rw [List.takeWhile_cons]
    cases e : f x with
    | true =>
      show (f x && (r.takeWhile f).all f) = true
      rw [e, all_while f r]
      rfl
    | false => rfl
theorem val_fold : ∀ (l : Bytes) (acc : Nat), l.all isDigit = true → (bytesOut l).foldl (fun (n b : Int) => 10 * n + b - 48) (acc : Int) = ((l.foldl (fun (n : Nat) (c : UInt8) => 10 * n + (c.toNat - 48)) acc : Nat) : Int)
  | [], _, _ => rfl
  | c :: r, acc, h => by
    rw [List.all_cons, Bool.and_eq_true] at h
    have d := h.1
    rw [← dig_eq] at d
    unfold digI at d
    simp only [Bool.and_eq_true, decide_eq_true_eq] at d
    have e : 10 * (acc : Int) + (c.toNat : Int) - 48 = ((10 * acc + (c.toNat - 48) : Nat) : Int) := by omega
    show (bytesOut r).foldl (fun (n b : Int) => 10 * n + b - 48) (10 * (acc : Int) + (c.toNat : Int) - 48) = _
    rw [e]
    exact val_fold r _ h.2
theorem val_eq {l : Bytes} (h : l.all isDigit = true) : valI (bytesOut l) = (valueOf l : Int) := val_fold l 0 h
theorem val_run (b : Bytes) (p : Nat) : valI (slice (bytesOut b) p (p + ((b.drop p).takeWhile isDigit).length)) = (valueOf ((b.drop p).takeWhile isDigit) : Int) := by
  rw [slice_eq, take_while, val_eq (all_while _ _)]
theorem numEnd_eq (b : Bytes) (p : Nat) : numEnd (bytesOut b) p =
    if (b.drop p).takeWhile isDigit = [] then .error (((if b.drop p = [] then 1 else 2 : Nat) : Int), (p : Int)) else if wrongNumber ((b.drop p).takeWhile isDigit) = true then .error (3, (p : Int)) else .ok (p + ((b.drop p).takeWhile isDigit).length) := by
  unfold numEnd
  rw [B_at, run_eq]
  cases hb : b.drop p with
  | nil => rfl
  | cons c r =>
    dsimp only [List.head?_cons, Option.map_some]
    rw [dig_eq, List.takeWhile_cons]
    cases hc : isDigit c with
    | false => rfl
    | true =>
      rw [if_neg (show ¬ (true = false) by decide), if_pos (show true = true from rfl), if_neg (show ¬ (c :: r.takeWhile isDigit = []) by simp)]
      have e : (((c.toNat : Int) = 48) ∨ 4 < (c :: r.takeWhile isDigit).length) ↔ wrongNumber (c :: r.takeWhile isDigit) = true := by
        unfold wrongNumber
        rw [Bool.or_eq_true, decide_eq_true_eq]
        have : ((c :: r.takeWhile isDigit).head? == some 48) = true ↔ c = 48 := by
          rw [beq_iff_eq]
          exact ⟨fun h => Option.some.inj h, fun h => by rw [h]; rfl⟩
        rw [this]
        have q := byte_eq c 48 (by decide)
        have q' : ((c.toNat : Int) = 48) ↔ c = 48 := q
        rw [q']
      by_cases g : wrongNumber (c :: r.takeWhile isDigit) = true
      · rw [if_pos (e.mpr g), if_pos g]
      · rw [if_neg (fun z => g (e.mp z)), if_neg g]

/-! ### units -/
theorem unit_eq (c : UInt8) : unitIx (c.toNat : Int) = if unitOf c = 0 then none else some (unitOf c - 1) := by
  have q1 : ((c.toNat : Int) = 121) ↔ c = 121 := byte_eq c 121 (by decide)
  have q2 : ((c.toNat : Int) = 109) ↔ c = 109 := byte_eq c 109 (by decide)
  have q3 : ((c.toNat : Int) = 119) ↔ c = 119 := byte_eq c 119 (by decide)
  have q4 : ((c.toNat : Int) = 100) ↔ c = 100 := byte_eq c 100 (by decide)
  unfold unitIx unitOf
  simp only [q1, q2, q3, q4]
  by_cases h1 : c = 121
  · simp [h1]
  by_cases h2 : c = 109
  · simp [h1, h2]
  by_cases h3 : c = 119
  · simp [h1, h2, h3]
  by_cases h4 : c = 100
  · simp [h1, h2, h3, h4]
  simp [h1, h2, h3, h4]
theorem unit_le (c : UInt8) : unitOf c ≤ 4 := by
  unfold unitOf
  split
  · decide
  · split
    · decide
    · split
      · decide
      · split <;> decide
/-- what's read, as the program's numbers -/
def toI (r : Except Fault Age) : Er (List Int) := match r with
  | .ok a => .ok (ageNums a)
  | .error e => .error ((e.1 : Int), (e.2 : Int))
def us4 (a : Age) : List Int := [(a.years : Int), (a.months : Int), (a.weeks : Int), (a.days : Int)]
theorem with_set (a : Age) {u : Nat} (h1 : u ≠ 0) (h2 : u ≤ 4) (n : Nat) : (us4 a).set (u - 1) (n : Int) = us4 (a.with_ u n) ∧ (a.with_ u n).less = a.less := by
  have : u = 1 ∨ u = 2 ∨ u = 3 ∨ u = 4 := by omega
  rcases this with rfl | rfl | rfl | rfl <;> exact ⟨rfl, rfl⟩
/-- what's taken off, behind units -/
def endI (ns : List Int) (us : List Int) (p : Nat) : Er (List Int) := match lessI ns p with
  | .error e => .error e
  | .ok l => .ok (us ++ [l])
theorem less_eq (b : Bytes) (p : Nat) (a : Age) (h : (bytesOut b)[p]? = some 45) : endI (bytesOut b) (us4 a) p = toI (readLess (p + 1) (b.drop (p + 1)) a) := by
  unfold endI
  rw [lessI_some h, if_neg (by decide), numEnd_eq]
  unfold readLess
  generalize hn : (b.drop (p + 1)).takeWhile isDigit = n
  dsimp only
  by_cases c1 : n = []
  · rw [if_pos c1, if_pos c1]
    rfl
  rw [if_neg c1, if_neg c1]
  by_cases c2 : wrongNumber n = true
  · rw [if_pos c2, if_pos c2]
    rfl
  rw [if_neg c2, if_neg c2]
  dsimp only
  rw [B_at, List.drop_drop]
  cases hd : b.drop (p + 1 + n.length) with
  | nil => rfl
  | cons c s =>
    dsimp only [List.head?_cons, Option.map_some]
    have q4 : ((c.toNat : Int) = 100) ↔ c = 100 := byte_eq c 100 (by decide)
    by_cases c3 : c = 100
    · rw [if_neg (show ¬ ((c.toNat : Int) ≠ 100) from fun z => z (q4.mpr c3)), if_neg (show ¬ (c ≠ 100) from fun z => z c3)]
      have hl : b.length - (p + 1 + n.length) = s.length + 1 := by
        have := congrArg List.length hd
        rw [List.length_drop, List.length_cons] at this
        exact this
      rw [B_len]
      by_cases c4 : s = []
      · have s0 : s.length = 0 := by rw [c4]; rfl
        rw [if_pos c4, if_neg (show ¬ (p + 1 + n.length + 1 < b.length) by omega)]
        rw [← hn, val_run]
        rfl
      · have s0 : s.length ≠ 0 := fun z => c4 (List.length_eq_zero_iff.mp z)
        rw [if_neg c4, if_pos (show p + 1 + n.length + 1 < b.length by omega)]
        rfl
    · rw [if_pos (show (c.toNat : Int) ≠ 100 from fun z => c3 (q4.mp z)), if_pos (show c ≠ 100 from c3)]
      rfl
theorem parts_eq (b : Bytes) : ∀ (f u p : Nat) (a : Age), a.less = 0 → (match unitsI (bytesOut b) f (us4 a) ((u : Int) - 1) p with
    | .error e => .error e
    | .ok (us, p') => endI (bytesOut b) us p' : Er (List Int)) = toI (readParts f u p (b.drop p) a)
  | 0, _, _, _, _ => rfl
  | f + 1, u, p, a, ha => by
    unfold unitsI readParts
    rw [numEnd_eq]
    generalize hn : (b.drop p).takeWhile isDigit = n
    dsimp only
    by_cases c1 : n = []
    · rw [if_pos c1, if_pos c1]
      rfl
    rw [if_neg c1, if_neg c1]
    by_cases c2 : wrongNumber n = true
    · rw [if_pos c2, if_pos c2]
      rfl
    rw [if_neg c2, if_neg c2]
    dsimp only
    unfold unitAt
    rw [B_at, List.drop_drop]
    cases hd : b.drop (p + n.length) with
    | nil => rfl
    | cons c r =>
      dsimp only [List.head?_cons, Option.map_some]
      rw [unit_eq]
      by_cases c3 : unitOf c = 0
      · rw [if_pos c3, if_pos c3]
        rfl
      rw [if_neg c3, if_neg c3]
      dsimp only
      have hu4 := unit_le c
      by_cases c4 : unitOf c ≤ u
      · rw [if_pos c4, if_pos (show ((unitOf c - 1 : Nat) : Int) ≤ (u : Int) - 1 by omega)]
        rfl
      rw [if_neg c4, if_neg (show ¬ (((unitOf c - 1 : Nat) : Int) ≤ (u : Int) - 1) by omega)]
      dsimp only
      have ev : valI (slice (bytesOut b) p (p + n.length)) = (valueOf n : Int) := by
        rw [← hn]
        exact val_run b p
      obtain ⟨w1, w2⟩ := with_set a c3 hu4 (valueOf n)
      rw [ev, w1]
      have hr : b.drop (p + n.length + 1) = r := by
        rw [← List.drop_drop, hd]
        rfl
      have h1 : (bytesOut b)[p + n.length + 1]? = r.head?.map fun (c : UInt8) => (c.toNat : Int) := by rw [B_at, hr]
      have no : ∀ l : List Int, endI (bytesOut b) l (p + n.length + 1) = match lessI (bytesOut b) (p + n.length + 1) with
        | .error e => .error e
        | .ok x => .ok (l ++ [x]) := fun _ => rfl
      cases hr2 : r with
      | nil =>
        have hx : (bytesOut b)[p + n.length + 1]? = none := by rw [h1, hr2]; rfl
        rw [hx, if_neg (show ¬ (unitOf c - 1 ≠ 3 ∧ (none : Option Int) = some 43) from fun z => by cases z.2)]
        dsimp only
        rw [no, lessI_none hx]
        show (.ok (us4 (a.with_ (unitOf c) (valueOf n)) ++ [0]) : Er (List Int)) = .ok (ageNums (a.with_ (unitOf c) (valueOf n)))
        have e0 : ((a.with_ (unitOf c) (valueOf n)).less : Int) = 0 := by rw [w2, ha]; rfl
        show _ = (.ok (us4 (a.with_ (unitOf c) (valueOf n)) ++ [((a.with_ (unitOf c) (valueOf n)).less : Int)]) : Er (List Int))
        rw [e0]
      | cons x s =>
        have q43 : ((x.toNat : Int) = 43) ↔ x = 43 := byte_eq x 43 (by decide)
        have q45 : ((x.toNat : Int) = 45) ↔ x = 45 := byte_eq x 45 (by decide)
        have hx : (bytesOut b)[p + n.length + 1]? = some (x.toNat : Int) := by rw [h1, hr2]; rfl
        have hs : b.drop (p + n.length + 1 + 1) = s := by
          rw [← List.drop_drop, hr, hr2]
          rfl
        rw [hx]
        dsimp only
        by_cases c5 : x = 43 ∧ unitOf c < 4
        · rw [if_pos c5, if_pos (show unitOf c - 1 ≠ 3 ∧ some (x.toNat : Int) = some 43 from ⟨by omega, by rw [q43.mpr c5.1]⟩)]
          have ih := parts_eq b f (unitOf c) (p + n.length + 2) (a.with_ (unitOf c) (valueOf n)) (by rw [w2]; exact ha)
          have eu : ((unitOf c - 1 : Nat) : Int) = (unitOf c : Int) - 1 := by omega
          rw [eu]
          have hs' : b.drop (p + n.length + 2) = s := hs
          rw [hs'] at ih
          exact ih
        · have c5' : ¬ (unitOf c - 1 ≠ 3 ∧ some (x.toNat : Int) = some 43) := fun z => c5 ⟨q43.mp (Option.some.inj z.2), by omega⟩
          rw [if_neg c5', if_neg c5]
          dsimp only
          by_cases c6 : x = 45
          · rw [if_pos c6]
            have hl := less_eq b (p + n.length + 1) (a.with_ (unitOf c) (valueOf n)) (by rw [hx, q45.mpr c6])
            rw [hs] at hl
            exact hl
          · rw [if_neg c6, no, lessI_some hx, if_pos (show (x.toNat : Int) ≠ 45 from fun z => c6 (q45.mp z))]
            rfl
theorem readAge_eq (b : Bytes) : rdAge (bytesOut b) = toI (readAge b) := by
  have par := parts_eq b (b.length + 1) 0 0 VxDay.nothing rfl
  have e0 : ((0 : Nat) : Int) - 1 = -1 := rfl
  rw [e0] at par
  have d0 : b.drop 0 = b := rfl
  rw [d0] at par
  cases hb : b with
  | nil => rfl
  | cons c r =>
    have h0 : (bytesOut b)[0]? = some (c.toNat : Int) := by rw [B_at, hb]; rfl
    rw [← hb, rdAge_some h0, B_len]
    have q48 : ((c.toNat : Int) = 48) ↔ c = 48 := byte_eq c 48 (by decide)
    by_cases c1 : c = 48
    · rw [if_pos (q48.mpr c1)]
      subst c1
      unfold nothingI
      rw [B_at, hb]
      cases r with
      | nil => rfl
      | cons d s =>
        have q100 : ((d.toNat : Int) = 100) ↔ d = 100 := byte_eq d 100 (by decide)
        show (if (d.toNat : Int) ≠ 100 then _ else _) = _
        by_cases c2 : d = 100
        · rw [if_neg (fun z => z (q100.mpr c2))]
          subst c2
          cases s with
          | nil => rfl
          | cons y s' =>
            rw [B_len, if_pos (by show 2 < s'.length + 1 + 1 + 1; omega)]
            unfold readAge
            rw [if_neg (by intro z; cases z), if_neg (by intro z; cases z), if_pos (by rfl)]
            rfl
        · rw [if_pos (fun z => c2 (q100.mp z))]
          unfold readAge
          rw [if_neg (by intro z; cases z), if_neg (by intro z; exact c2 (List.cons.inj (List.cons.inj z).2).1), if_neg (by intro z; exact c2 (List.cons.inj (List.cons.inj z).2).1)]
          unfold readParts
          have e : ((48 : UInt8) :: d :: s).takeWhile isDigit = 48 :: (d :: s).takeWhile isDigit := by
            rw [List.takeWhile_cons]
            rfl
          rw [e]
          dsimp only
          rw [if_neg (by simp), if_pos (by unfold wrongNumber; rfl)]
          rfl
    · rw [if_neg (fun z => c1 (q48.mp z))]
      have er : readAge b = readParts (b.length + 1) 0 0 b VxDay.nothing := by
        unfold readAge
        rw [hb]
        rw [if_neg (by intro z; exact c1 (List.cons.inj z).1), if_neg (by intro z; exact c1 (List.cons.inj z).1), if_neg]
        intro z
        cases r with
        | nil => cases z
        | cons d s => exact c1 (List.cons.inj z).1
      rw [er, ← par]
      rfl
theorem a_age (ns : List Int) (h : NeutralIO.bytes ns = true) : toldL (rdAge ns) = answer (.age (AgeNeutral.bytesIn ns)) := by
  have e := readAge_eq (AgeNeutral.bytesIn ns)
  rw [B_in h] at e
  rw [e]
  show _ = (match readAge (AgeNeutral.bytesIn ns) with | .ok a => tells (ageNums a) | .error e => faulty e)
  cases readAge (AgeNeutral.bytesIn ns) <;> rfl

/-! ### dates -/
theorem stand_eq (c : UInt8) {p : Nat} (h : p < 10) : standI (c.toNat : Int) p = mayStand p c := by
  unfold standI mayStand
  by_cases g : p = 4 ∨ p = 7
  · rw [if_pos g, if_pos g]
    have q : ((c.toNat : Int) = 45) ↔ c = 45 := byte_eq c 45 (by decide)
    by_cases e : c = 45
    · rw [decide_eq_true (q.mpr e), beq_iff_eq.mpr e]
    · rw [decide_eq_false (fun z => e (q.mp z)), beq_eq_false_iff_ne.mpr e]
  · rw [if_neg g, if_neg g, dig_eq, decide_eq_true h, Bool.true_and]
theorem chk_eq (b : Bytes) : ∀ f p : Nat, p + f = 10 → p ≤ b.length → chkI (bytesOut b) f p = (match ((b.drop p).zipIdx p).find? (fun (x : UInt8 × Nat) => !mayStand x.2 x.1) with
    | some x => .error (2, (x.2 : Int))
    | none => if b.length < 10 then .error (1, (b.length : Int)) else .ok () : Er Unit)
  | 0, p, h, h2 => by
    unfold chkI
    obtain rfl : p = 10 := by omega
    rw [B_len]
    cases hd : b.drop 10 with
    | nil =>
      have := congrArg List.length hd
      rw [List.length_drop, List.length_nil] at this
      rw [if_neg (by omega)]
      show _ = if b.length < 10 then _ else _
      rw [if_neg (by omega)]
    | cons c r =>
      have := congrArg List.length hd
      rw [List.length_drop, List.length_cons] at this
      rw [if_pos (by omega)]
      rfl
  | f + 1, p, h, h2 => by
    cases hd : b.drop p with
    | nil =>
      have := congrArg List.length hd
      rw [List.length_drop, List.length_nil] at this
      have hn : (bytesOut b)[p]? = none := by rw [B_at, hd]; rfl
      rw [chkI_none hn]
      show _ = if b.length < 10 then _ else _
      rw [if_pos (by omega), show b.length = p by omega]
    | cons c r =>
      have := congrArg List.length hd
      rw [List.length_drop, List.length_cons] at this
      have hn : (bytesOut b)[p]? = some (c.toNat : Int) := by rw [B_at, hd]; rfl
      rw [chkI_some hn, stand_eq c (by omega), List.zipIdx_cons, List.find?_cons]
      cases g : mayStand p c with
      | false => rfl
      | true =>
        rw [if_neg (by decide)]
        have hr : b.drop (p + 1) = r := by
          rw [← List.drop_drop, hd]
          rfl
        have ih := chk_eq b f (p + 1) (by omega) (by omega)
        rw [hr] at ih
        exact ih
theorem slice_val (b : Bytes) (p n : Nat) (h : ((b.drop p).take n).all isDigit = true) : valI (slice (bytesOut b) p (p + n)) = (valueOf ((b.drop p).take n) : Int) := by
  rw [slice_eq, val_eq h]
theorem day_of_nat (y m d : Nat) : (match dayOf ⟨y, m, d⟩ with | some n => [0, (n : Int)] | none => [-1] : List Int) = if isDateI y m d = true then [0, dayI y m d] else [-1] := by
  rw [← a_day]
  show _ = (if (y : Int) < 0 ∨ (m : Int) < 0 ∨ (d : Int) < 0 then no 1 else _)
  rw [if_neg (by omega)]
  rfl
theorem readDate_eq (b : Bytes) : told1 (rdDate (bytesOut b)) = match readDate b with
    | .ok n => tells [(n : Int)]
    | .error e => faulty e := by
  have hc := chk_eq b 10 0 rfl (Nat.zero_le _)
  have d0 : b.drop 0 = b := rfl
  rw [d0] at hc
  unfold rdDate readDate
  cases hf : b.zipIdx.find? (fun (x : UInt8 × Nat) => !mayStand x.2 x.1) with
  | some x =>
    rw [hf] at hc
    rw [hc]
    rfl
  | none =>
    rw [hf] at hc
    dsimp only at hc ⊢
    by_cases g : b.length < 10
    · rw [if_pos g] at hc
      rw [hc, if_pos g]
      rfl
    · rw [if_neg g] at hc
      rw [hc, if_neg g]
      dsimp only
      obtain ⟨hl, hst⟩ := chkI_len (p := 0) rfl (Nat.zero_le _) hc
      rw [B_len] at hl
      have dig : ∀ p n : Nat, p + n ≤ 10 → (∀ j, p ≤ j → j < p + n → j ≠ 4 ∧ j ≠ 7) → ((b.drop p).take n).all isDigit = true := fun p n h1 h2 => by
        rw [List.all_eq_true]
        intro c hc'
        obtain ⟨i, hi, e⟩ := List.getElem_of_mem hc'
        rw [List.length_take, List.length_drop] at hi
        rw [List.getElem_take, List.getElem_drop] at e
        have st := hst (p + i) (Nat.zero_le _) (by omega)
        have eb : (bytesOut b).getD (p + i) 0 = (c.toNat : Int) := by
          unfold bytesOut
          rw [List.getD_eq_getElem?_getD, List.getElem?_map, List.getElem?_eq_getElem (show p + i < b.length by omega), e]
          rfl
        rw [eb] at st
        unfold standI at st
        have := h2 (p + i) (by omega) (by omega)
        rw [if_neg (by omega), dig_eq] at st
        exact st
      have v1 := slice_val b 0 4 (dig 0 4 (by decide) (fun j a b => by omega))
      have v2 := slice_val b 5 2 (dig 5 2 (by decide) (fun j a b => by omega))
      have v3 := slice_val b 8 2 (dig 8 2 (by decide) (fun j a b => by omega))
      have t8 : (b.drop 8).take 2 = b.drop 8 := List.take_of_length_le (by rw [List.length_drop]; omega)
      rw [t8] at v3
      have v1' : valI (slice (bytesOut b) 0 4) = (valueOf (b.take 4) : Int) := v1
      rw [v1', v2, v3]
      have k := day_of_nat (valueOf (b.take 4)) (valueOf ((b.drop 5).take 2)) (valueOf (b.drop 8))
      generalize isDateI (valueOf (b.take 4) : Int) (valueOf ((b.drop 5).take 2) : Int) (valueOf (b.drop 8) : Int) = z at k ⊢
      generalize dayI (valueOf (b.take 4) : Int) (valueOf ((b.drop 5).take 2) : Int) (valueOf (b.drop 8) : Int) = v at k ⊢
      generalize dayOf ⟨valueOf (b.take 4), valueOf ((b.drop 5).take 2), valueOf (b.drop 8)⟩ = o at k ⊢
      cases o with
      | none =>
        cases z with
        | true => exact absurd (congrArg List.length k) (by show ¬ (1 = 2); decide)
        | false => rfl
      | some n =>
        cases z with
        | true => exact k.symm
        | false => exact absurd (congrArg List.length k) (by show ¬ (2 = 1); decide)
theorem a_read (ns : List Int) (h : NeutralIO.bytes ns = true) : told1 (rdDate ns) = answer (.read (AgeNeutral.bytesIn ns)) := by
  have e := readDate_eq (AgeNeutral.bytesIn ns)
  rw [B_in h] at e
  exact e

/-! ### an age's text -/
theorem dec_out (n : Nat) : bytesOut (decimal n) = decI n := by
  unfold bytesOut decimal decI
  rw [List.map_map]
  refine List.map_congr_left fun c hc => ?_
  have d := Nat.isDigit_of_mem_toDigits (by decide) (by decide) hc
  unfold Char.isDigit at d
  simp only [Bool.and_eq_true, decide_eq_true_eq] at d
  show (((UInt8.ofNat c.toNat).toNat : Nat) : Int) = _
  have d2 : c.toNat ≤ 57 := d.2
  rw [ofNat_small (by omega)]
theorem out_app (x y : Bytes) : bytesOut (x ++ y) = bytesOut x ++ bytesOut y := List.map_append
theorem age_some {ns : List Int} {A : Age} (h : ageOf ns = some A) : A.less = 0 ∨ 0 < A.years + A.months + A.weeks + A.days := by
  unfold ageOf at h
  split at h
  · split at h
    · rename_i c
      have e := Option.some.inj h
      rw [e] at c
      have c2 := c.2
      unfold Age.ok at c2
      simp only [Bool.and_eq_true, Bool.or_eq_true, decide_eq_true_eq, beq_iff_eq] at c2
      exact c2.2.2.2.2.2
    · cases h
  · cases h
theorem a_text {A : Age} (h : A.less = 0 ∨ 0 < A.years + A.months + A.weeks + A.days) : bytesOut A.text = writeI A := by
  unfold Age.text
  rw [out_app]
  have o1 : ∀ (n : Nat) (c : UInt8), bytesOut (decimal n ++ [c]) = decI n ++ [(c.toNat : Int)] := fun n c => by
    rw [out_app, dec_out]
    rfl
  have pl : ∀ (x y : Bytes) (l : List Bytes), bytesOut (plussed (x :: y :: l)) = bytesOut x ++ (43 :: bytesOut (plussed (y :: l))) := fun x y l => by
    show bytesOut (x ++ (43 :: plussed (y :: l))) = _
    rw [out_app]
    rfl
  have p1 : ∀ x : Bytes, bytesOut (plussed [x]) = bytesOut x := fun _ => rfl
  have p0 : bytesOut (plussed []) = [48, 100] := rfl
  have hl : bytesOut (if A.less = 0 then [] else 45 :: (decimal A.less ++ [100])) = if A.less = 0 then [] else [45] ++ decI A.less ++ [100] := by
    by_cases h : A.less = 0
    · rw [if_pos h, if_pos h]; rfl
    · rw [if_neg h, if_neg h]
      show (45 : Int) :: bytesOut (decimal A.less ++ [100]) = _
      rw [o1]
      rfl
  rw [hl]
  have w4 : wr4 A 4 = addI (addI (addI (addI [] A.years 121) A.months 109) A.weeks 119) A.days 100 := rfl
  have tail : ∀ X : List Int, X.length ≠ 0 → wr4 A 4 = X → X ++ (if A.less = 0 then [] else [45] ++ decI A.less ++ [100]) = writeI A := fun X hX e => by
    unfold writeI
    rw [e, if_neg hX]
    by_cases h : A.less = 0
    · rw [if_pos h, if_pos h, List.append_nil]
    · rw [if_neg h, if_neg h]
  have a0 : ∀ (acc : List Int) (l : Int), addI acc 0 l = acc := fun acc l => if_pos rfl
  have a1 : ∀ (n : Nat) (l : Int), n ≠ 0 → addI [] n l = decI n ++ [l] := fun n l hn => by
    unfold addI
    rw [if_neg hn, if_neg (by decide)]
    rfl
  have a2 : ∀ (acc : List Int) (x : Int) (n : Nat) (l : Int), n ≠ 0 → addI (acc ++ [x]) n l = (acc ++ [x] ++ [43] ++ decI n) ++ [l] := fun acc x n l hn => by
    unfold addI
    rw [if_neg hn, if_pos (by rw [List.length_append]; exact Nat.succ_pos _), List.append_assoc (acc ++ [x] ++ [43])]
  have q0 : ∀ c : UInt8, part 0 c = [] := fun _ => rfl
  have q1 : ∀ (n : Nat) (c : UInt8), n ≠ 0 → part n c = [decimal n ++ [c]] := fun n c hn => if_neg hn
  have l1 : ∀ (X : List Int) (x : Int), (X ++ [x]).length ≠ 0 := fun X x => by rw [List.length_append]; exact Nat.succ_ne_zero _
  by_cases hz : A.years + A.months + A.weeks + A.days = 0
  · have e1 : A.years = 0 := by omega
    have e2 : A.months = 0 := by omega
    have e3 : A.weeks = 0 := by omega
    have e4 : A.days = 0 := by omega
    have e5 : A.less = 0 := by omega
    rw [if_pos e5, e1, e2, e3, e4]
    unfold writeI
    rw [w4, e1, e2, e3, e4]
    rfl
  · refine tail _ ?_ ?_
    · by_cases hy : A.years = 0 <;> by_cases hm : A.months = 0 <;> by_cases hw : A.weeks = 0 <;> by_cases hd : A.days = 0 <;> first
        | (exact absurd (by omega) hz)
        | (simp only [hy, hm, hw, hd, q0, q1, pl, p1, o1, ne_eq, not_false_eq_true, List.nil_append, List.cons_append, List.length_append, List.length_cons, List.length_nil]
           omega)
    · rw [w4]
      by_cases hy : A.years = 0 <;> by_cases hm : A.months = 0 <;> by_cases hw : A.weeks = 0 <;> by_cases hd : A.days = 0 <;> first
        | (exact absurd (by omega) hz)
        | (simp only [hy, hm, hw, hd, q0, q1, pl, p1, o1, a0, a1, a2, ne_eq, not_false_eq_true, List.nil_append, List.cons_append]
           simp only [List.append_assoc, List.cons_append, List.nil_append]
           rfl)
        | (simp only [hy, hm, hw, hd, q0, q1, pl, p1, o1, a0, a1, a2, ne_eq, not_false_eq_true, List.nil_append, List.cons_append]
           rfl)
theorem a_write (ns : List Int) : toldW ns = answer (.write ns) := by
  show _ = (match ageOf ns with | some a => tells (bytesOut a.text) | none => no 1)
  unfold toldW
  cases h : ageOf ns with
  | none => rfl
  | some A =>
    dsimp only
    rw [a_text (age_some h)]
    rfl
end Ag

/-! The desk: calls cut out of the numbers, each answered. -/
namespace Ag
open PySem PySem.Spec PyProof.Rows L2 PySem.FauX
open VxDay (Age)
/-! ### a written dict, int keys -/
def IDct (K : PySem.W.Frag) (a : Addr) (k : Int) (v : V) : Prop := ∃ es n u, K.lookup a = some ⟨.type "dict", none, .dict es n, #[]⟩ ∧ IntKeys es ∧ findBy Value.isInt es k = some u ∧ RelV v u
def rIxI (K : PySem.W.Frag) : R2 := fun x y H Q => ∃ p k v, x = .ref p ∧ y = .int k ∧ IDct K p k v ∧ Q v H
theorem ix_shapes {X : Cx} : IxR X (rIxI X.K) := by
  intro value slice pins s σ H x y v u Q I rx ry h hs
  obtain ⟨p, k, r, rfl, rfl, ⟨es, n, u0, hl, hk, e, ru⟩, q⟩ := h
  obtain rfl : v = Value.ref p := rx
  obtain ⟨t, rfl⟩ := (show ∃ t, u = Value.int k t from ry)
  have hm : s.heap.MapOf (intKind X.prog X.w) p (fun k => findBy Value.isInt es k) := ⟨_, es, n, I.kIn _ _ hl, ⟨rfl, rfl, rfl⟩, rfl, fun e he => by
    obtain ⟨i, ti, e1, e2⟩ := hk e he
    exact ⟨i, by rw [e1]; exact intKind_is X.prog X.w i ti, e2⟩, fun _ => rfl⟩
  exact tail_any hm.typeIs slot_dict_getitem.lookup (wpAny_getItem_of (intKind_is X.prog X.w k t) hm e ⟨r, H, I.tok _, ru, q⟩) hs
/-- SHAPES, as the top has written it -/
structure ShTxt (K : PySem.W.Frag) (mg : Str → Option Value) (aS : Addr) : Prop where
  gS : mg "SHAPES" = some (.ref aS)
  dS : ∀ (p : Int) (n k : Nat), PyWrvaxa.shape p = some (n, k) → ∃ a, IDct K aS p (.ref a) ∧ ∀ H, SqT K H a [.int (n : Int), .int (k : Int)]

/-! ### parts of heaps; lists side by side -/
def keep (p : Addr → Bool) (H : Hp) : Hp := fun b => if p b = true then H b else none
theorem keep_same (p : Addr → Bool) (H : Hp) : Same (keep p H) H := fun b o e => by
  unfold keep at e
  split at e
  · exact e
  · cases e
theorem keep_at {p : Addr → Bool} {H : Hp} {b : Addr} {o : HO} (h : p b = true) (e : H b = some o) : keep p H b = some o := by
  unfold keep
  rw [if_pos h]
  exact e
theorem keep_mono {p q : Addr → Bool} {H H' : Hp} (h : ∀ b, p b = true → q b = true) (s : ∀ b o, p b = true → H b = some o → H' b = some o) : Same (keep p H) (keep q H') := fun b o e => by
  unfold keep at e
  split at e
  · rename_i hp
    exact keep_at (h b hp) (s b o hp e)
  · cases e
theorem keep_not {p : Addr → Bool} {H : Hp} {b : Addr} (h : p b = false) : keep p H b = none := by
  unfold keep
  rw [h]
  rfl
inductive All2 {α β : Type} (R : α → β → Prop) : List α → List β → Prop
  | nil : All2 R [] []
  | cons {a : α} {b : β} {l : List α} {m : List β} : R a b → All2 R l m → All2 R (a :: l) (b :: m)
section
variable {α β : Type} {R R' : α → β → Prop}
theorem All2.snoc {l : List α} {m : List β} {a : α} {b : β} (h : All2 R l m) (r : R a b) : All2 R (l ++ [a]) (m ++ [b]) := by
  induction h with
  | nil => exact .cons r .nil
  | cons x _ ih => exact .cons x ih
theorem All2.mono {l : List α} {m : List β} (h : All2 R l m) (f : ∀ a b, R a b → R' a b) : All2 R' l m := by
  induction h with
  | nil => exact .nil
  | cons x _ ih => exact .cons (f _ _ x) ih
theorem All2.len {l : List α} {m : List β} (h : All2 R l m) : l.length = m.length := by
  induction h with
  | nil => rfl
  | cons _ _ ih => rw [List.length_cons, List.length_cons, ih]
theorem All2.at {l : List α} {m : List β} (h : All2 R l m) : ∀ {i : Nat} {a : α}, l[i]? = some a → ∃ b, m[i]? = some b ∧ R a b := by
  induction h with
  | nil => intro i a e; cases e
  | cons x _ ih =>
    intro i a e
    cases i with
    | zero =>
      obtain rfl := Option.some.inj e
      exact ⟨_, rfl, x⟩
    | succ i => exact ih e
end
def rowAt (H : Hp) (r : Addr) (row : List Int) : Prop := H r = some (.lst (row.map V.int))
/-- a call's number, its numbers (w), its rows (l) -/
def ArgAt (H : Hp) (p : Int) (w l : Addr) (c : List (List Int)) : Prop := ∃ (xs : List Int) (rows : List (List Int)) (rs : List Addr), c = (p :: xs) :: rows ∧ H w = some (.lst (xs.map V.int)) ∧ H l = some (.lst (rs.map V.ref)) ∧ All2 (rowAt H) rs rows
def CallAt (H : Hp) (v : V) (c : List (List Int)) : Prop := ∃ (t : Addr) (p : Int) (w l : Addr), v = .ref t ∧ H t = some (.tup [.int p, .ref w, .ref l]) ∧ ArgAt H p w l c
theorem rowAt_on {H H' : Hp} (s : Same H H') (r : Addr) (row : List Int) (h : rowAt H r row) : rowAt H' r row := s _ _ h
theorem ArgAt.on {H H' : Hp} (s : Same H H') {p : Int} {w l : Addr} {c : List (List Int)} (h : ArgAt H p w l c) : ArgAt H' p w l c := by
  obtain ⟨xs, rows, rs, e, h1, h2, h3⟩ := h
  exact ⟨xs, rows, rs, e, s _ _ h1, s _ _ h2, h3.mono (rowAt_on s)⟩
theorem CallAt.on {H H' : Hp} (s : Same H H') (v : V) (c : List (List Int)) (h : CallAt H v c) : CallAt H' v c := by
  obtain ⟨t, p, w, l, e, h1, h2⟩ := h
  exact ⟨t, p, w, l, e, s _ _ h1, h2.on s⟩

/-! ### calls cut out of the numbers, by places -/
theorem shape_small {p : Int} {n k : Nat} (h : PyWrvaxa.shape p = some (n, k)) : n ≤ 4 ∧ k ≤ 2 := by
  unfold PyWrvaxa.shape at h
  repeat' split at h
  all_goals first
    | (cases h; done)
    | (have e := Prod.mk.inj (Option.some.inj h); omega)
theorem drop_at {ns : List Int} {i : Nat} {p : Int} {r : List Int} (h : ns.drop i = p :: r) : i < ns.length ∧ ns[i]? = some p ∧ ns.drop (i + 1) = r := by
  have hl := congrArg List.length h
  rw [List.length_drop, List.length_cons] at hl
  refine ⟨by omega, ?_, ?_⟩
  · rw [← List.head?_drop, h]
    rfl
  · rw [← List.drop_drop, h]
    rfl
theorem drop_nil {ns : List Int} {i : Nat} (h : i < ns.length) : ∃ p r, ns.drop i = p :: r := ⟨ns[i], ns.drop (i + 1), List.drop_eq_getElem_cons h⟩
theorem calls_nil {f : Nat} {rest : List (List (List Int))} (h : PyFlat.calls PyWrvaxa.shape f [] = some rest) : rest = [] := by
  cases f <;> exact (Option.some.inj h).symm
theorem calls_step {f : Nat} {p : Int} {r : List Int} {rest : List (List (List Int))} (h : PyFlat.calls PyWrvaxa.shape f (p :: r) = some rest) :
    ∃ f' n k xs t cs, PyWrvaxa.shape p = some (n, k) ∧ n ≤ r.length ∧ PyFlat.rows k (r.drop n) = some (xs, t) ∧ PyFlat.calls PyWrvaxa.shape f' t = some cs ∧ rest = ((p :: r.take n) :: xs) :: cs := by
  cases f with
  | zero => cases h
  | succ f =>
    unfold PyFlat.calls PyFlat.call at h
    dsimp only at h
    cases hs : PyWrvaxa.shape p with
    | none => rw [hs] at h; cases h
    | some nk =>
      obtain ⟨n, k⟩ := nk
      rw [hs] at h
      dsimp only at h
      by_cases hl : r.length < n
      · rw [if_pos hl] at h; cases h
      · rw [if_neg hl] at h
        cases hr : PyFlat.rows k (r.drop n) with
        | none => rw [hr] at h; cases h
        | some xt =>
          obtain ⟨xs, t⟩ := xt
          rw [hr] at h
          dsimp only at h
          cases hcs : PyFlat.calls PyWrvaxa.shape f t with
          | none => rw [hcs] at h; cases h
          | some cs =>
            rw [hcs] at h
            exact ⟨f, n, k, xs, t, cs, rfl, by omega, hr, hcs, (Option.some.inj h).symm⟩
theorem rows_zero {l t : List Int} {xs : List (List Int)} (h : PyFlat.rows 0 l = some (xs, t)) : xs = [] ∧ t = l := by
  have e := Prod.mk.inj (Option.some.inj h)
  exact ⟨e.1.symm, e.2.symm⟩
theorem rows_step {k : Nat} {l t : List Int} {xs : List (List Int)} (h : PyFlat.rows (k + 1) l = some (xs, t)) : ∃ (n : Nat) (r : List Int) (xs' : List (List Int)), l = (n : Int) :: r ∧ n ≤ r.length ∧ PyFlat.rows k (r.drop n) = some (xs', t) ∧ xs = r.take n :: xs' := by
  unfold PyFlat.rows at h
  split at h
  · cases h
  · rename_i x s hx
    split at h
    · cases h
    · rename_i xs' t' hr
      have e := Prod.mk.inj (Option.some.inj h)
      unfold PyFlat.row at hx
      split at hx
      · cases hx
      · rename_i n r
        split at hx
        · rename_i c
          have e2 := Prod.mk.inj (Option.some.inj hx)
          refine ⟨n.toNat, r, xs', ?_, c.2, ?_, ?_⟩
          · rw [show ((n.toNat : Nat) : Int) = n by omega]
          · rw [e2.2, hr, e.2]
          · rw [e2.1]; exact e.1.symm
        · cases hx

section
variable {P : Program} {w : World} {K : PySem.W.Frag} {mg : Str → Option Value} {base : Heap} {aL aT aH C fI aS : Addr}

abbrev s_cut_calls : Stmt := topS 92
abbrev N_cut_calls : List Str := ["numbers", "calls", "at", "call", "many", "many_lists", "whole", "lists", "turn", "end"]
theorem sc_cut_calls : FnScope N_cut_calls ["numbers"] (defScope s_cut_calls) := ⟨rfl, rfl, rfl, by decide +kernel, rfl, by decide +kernel, by decide +kernel⟩
/-- what stood before, and l, left out -/
def outer (H : Hp) (l : Addr) : Addr → Bool := fun b => (H b).isNone && !(b == l)
def inner (H : Hp) (l q : Addr) : Addr → Bool := fun b => (H b).isNone && !(b == l) && !(b == q)
theorem outer_yes {H : Hp} {l b : Addr} (h1 : H b = none) (h2 : b ≠ l) : outer H l b = true := by
  unfold outer
  rw [h1, beq_eq_false_iff_ne.mpr h2]
  rfl
theorem inner_yes {H : Hp} {l q b : Addr} (h1 : H b = none) (h2 : b ≠ l) (h3 : b ≠ q) : inner H l q b = true := by
  unfold inner
  rw [h1, beq_eq_false_iff_ne.mpr h2, beq_eq_false_iff_ne.mpr h3]
  rfl
theorem outer_ne {H : Hp} {l b : Addr} (h : outer H l b = true) : b ≠ l := fun e => by
  unfold outer at h
  rw [Bool.and_eq_true, e] at h
  simp at h
theorem inner_ne {H : Hp} {l q b : Addr} (h : inner H l q b = true) : b ≠ q := fun e => by
  unfold inner at h
  rw [Bool.and_eq_true, e] at h
  simp at h
theorem inner_outer {H : Hp} {l q b : Addr} (h : inner H l q b = true) : outer H l b = true := by
  unfold inner at h
  exact (Bool.and_eq_true _ _ ▸ h).1
theorem outer_free {H : Hp} {l b : Addr} (h : outer H l b = true) : H b = none := by
  unfold outer at h
  have := (Bool.and_eq_true _ _ ▸ h).1
  exact Option.isNone_iff_eq_none.mp this
def fresh (H : Hp) : Addr → Bool := fun b => (H b).isNone
/-- the outer loop's state -/
def WC (ns : List Int) (a l : Addr) (H : Hp) (cs : List (List (List Int))) (m : Nat) (σ : L2.St) (H' : Hp) : Prop := ∃ (i f : Nat) (vs : List V) (done rest : List (List (List Int))) (x3 x4 x5 x6 x7 x8 x9 : Option V),
  σ = [some (.ref a), some (.ref l), some (.int (i : Nat)), x3, x4, x5, x6, x7, x8, x9] ∧ Same H H' ∧ H' l = some (.lst vs) ∧ All2 (CallAt (keep (outer H l) H')) vs done ∧ PyFlat.calls PyWrvaxa.shape f (ns.drop i) = some rest ∧ done ++ rest = cs ∧ i ≤ ns.length ∧ m = ns.length - i
/-- the inner loop's state: rows so far in q -/
def RC (ns : List Int) (lo : Nat) (a l q wh : Addr) (p : Int) (n k : Nat) (H H1 : Hp) (xs : List (List Int)) (t : List Int) (j : Nat) (σ : L2.St) (H' : Hp) : Prop := ∃ (i : Nat) (rs : List Addr) (done rest : List (List Int)) (x8 x9 : Option V),
  σ = [some (.ref a), some (.ref l), some (.int (i : Nat)), some (.int p), some (.int (n : Nat)), some (.int (k : Nat)), some (.ref wh), some (.ref q), x8, x9] ∧ Same H1 H' ∧ H' q = some (.lst (rs.map V.ref)) ∧ All2 (rowAt (keep (inner H l q) H')) rs done ∧
    PyFlat.rows (k - j) (ns.drop i) = some (rest, t) ∧ done ++ rest = xs ∧ i ≤ ns.length ∧ done.length = j ∧ lo ≤ i
def sp_cut_calls (K : PySem.W.Frag) : Sp := sR fun a H Q _ => ∃ (ns : List Int) (cs : List (List (List Int))), SqL K H a (ns.map V.int) ∧ PyFlat.calls PyWrvaxa.shape ns.length ns = some cs ∧ cs.length ≤ 30 ∧
  ∀ H' p vs, Same H H' → H p = none → H' p = some (.lst vs) → All2 (CallAt (keep (fresh H) H')) vs cs → Q (.ref p) H'
theorem ok_cut_calls (T : Txt K mg aL aT aH) (TS : ShTxt K mg aS) (D : Dfn K mg "cut_calls" s_cut_calls) : Cal P w K mg base CX0 1 "cut_calls" (sp_cut_calls K) := by
  refine cal0 D sc_cut_calls lR (fun _ _ _ _ _ _ us hl => match us, hl with | [_], _ => rfl) fun f cdv A outer s H vs Q E hr h => ?_
  obtain ⟨a, rfl, ns, cs, hS, hc, h30, q⟩ := h
  refine ⟨_, (pss_cons (ps_set (i := 1) sc_cut_calls.nd rfl (Or.inl rfl) (pe_lst pa_nil))
    (pss_cons (ps_set (i := 2) sc_cut_calls.nd rfl (Or.inl rfl) pe_int)
    (pss_cons (ps_while PassesOwn.never (pt_cmpR op_lt (pv 2) (pe_callB call_len_seq (by rfl) T.fr.n_len (by decide +kernel) (pa_cons (pv 0) pa_nil)) (nomark _)) (pss_cons (ps_set (i := 3) sc_cut_calls.nd rfl (Or.inl rfl) (pe_ix ix_list (pv 0) (pv 2) (fun _ _ => rfl)))
    (pss_cons (ps_asg (pe_ix ix_shapes (pe_r TS.gS) (pv 3) (fun _ _ => rfl)) (pg_tup (by rfl) (pgs_cons (pg_name (i := 4) sc_cut_calls.nd rfl (Or.inl rfl)) (pgs_cons (pg_name (i := 5) sc_cut_calls.nd rfl (Or.inl rfl)) pgs_nil))))
    (pss_cons (ps_set (i := 6) sc_cut_calls.nd rfl (Or.inl rfl) (pe_slice sl_list (pv 0) (po_some (pe_op op_add (pv 2) pe_int)) (po_some (pe_op op_add (pe_op op_add (pv 2) pe_int) (pv 4)))))
    (pss_cons (ps_set (i := 2) sc_cut_calls.nd rfl (Or.inl rfl) (pe_op op_add (pe_op op_add (pv 2) pe_int) (pv 4)))
    (pss_cons (ps_set (i := 7) sc_cut_calls.nd rfl (Or.inl rfl) (pe_lst pa_nil))
    (pss_cons (ps_for PassesOwn.never rfl (pi_range1 rfl T.fr.n_range (pa_cons (pv 5) pa_nil)) (pg_name (i := 8) sc_cut_calls.nd rfl (Or.inl rfl))
    (pss_cons (ps_set (i := 9) sc_cut_calls.nd rfl (Or.inl rfl) (pe_op op_add (pe_op op_add (pv 2) pe_int) (pe_ix ix_list (pv 0) (pv 2) (fun _ _ => rfl))))
    (pss_cons (ps_expr (pe_bm PySem.F.plainAttrs_list PySem.F.slot_list_append PySem.F.type_list_append mt_append (pv 7) (pa_cons (pe_slice sl_list (pv 0) (po_some (pe_op op_add (pv 2) pe_int)) (po_some (pv 9))) pa_nil)))
    (pss_one (ps_set (i := 2) sc_cut_calls.nd rfl (Or.inl rfl) (pv 9))))))
    (pss_one (ps_expr (pe_bm PySem.F.plainAttrs_list PySem.F.slot_list_append PySem.F.type_list_append mt_append (pv 1) (pa_cons (pe_tup (pa_cons (pv 3) (pa_cons (pv 6) (pa_cons (pv 7) pa_nil)))) pa_nil)))))))))))
    (pss_one (ps_ret (pv 1)))))), ?_⟩
  walk_at "ag rd"
  refine ⟨Nat.zero_le _, fun l hl => ?_⟩
  walk_at "ag rd"
  refine ⟨WC ns a l H cs, ⟨ns.length - 0, 0, ns.length, [], [], cs, none, none, none, none, none, none, none, rfl, same_new hl, upd_same, .nil, hc, rfl, Nat.zero_le _, rfl⟩, fun m σ H' hW => ?_⟩
  obtain ⟨i, f', vs, done, rest, x3, x4, x5, x6, x7, x8, x9, rfl, sm, el, av, hcr, hdr, hi, rfl⟩ := hW
  have hS' := sm.seq hS
  walk_at "ag rd"
  refine ⟨_, _, rfl, .inl hS', ?_⟩
  walk_at "ag rd"
  rw [ml]
  refine of_decide (fun c => ?_) (fun c => ?_)
  · obtain ⟨p, r, ed⟩ := drop_nil (ns := ns) (i := i) (by omega)
    obtain ⟨d1, d2, d3⟩ := drop_at ed
    rw [ed] at hcr
    obtain ⟨f2, n, k, xs, t, cs', hsh, hn, hrows, hcs, rfl⟩ := calls_step hcr
    obtain ⟨sn, sk⟩ := shape_small hsh
    have hrl := congrArg List.length ed
    rw [List.length_drop, List.length_cons] at hrl
    refine ⟨fun σ' H1 => ∃ m', m' < ns.length - i ∧ WC ns a l H cs m' σ' H1, fun _ _ z => z, ?_⟩
    walk_at "ag rd"
    refine ⟨a, _, _, _, rfl, rfl, hS', at_int d2, ?_⟩
    walk_at "ag rd"
    obtain ⟨sa, hsa, hst⟩ := TS.dS p n k hsh
    refine ⟨aS, p, .ref sa, rfl, rfl, hsa, ?_⟩
    refine ⟨sa, _, rfl, hst _, rfl, _, _, rfl, _, _, rfl, rfl, ?_⟩
    walk_at "ag rd"
    refine ⟨a, _, rfl, hS', fun wh hw => ?_⟩
    have e1 : (i : Int) + 1 = ((i + 1 : Nat) : Int) := by omega
    have e2 : (i : Int) + 1 + (n : Int) = ((i + 1 + n : Nat) : Int) := by omega
    have ecut : cutV (ns.map V.int) (some ((i : Int) + 1)) (some ((i : Int) + 1 + (n : Int))) = (r.take n).map V.int := by
      rw [e2, e1, cut_slice (by omega) (by omega)]
      unfold slice
      rw [d3, Nat.add_sub_cancel_left]
    rw [ecut]
    have s1 : Same H' (upd H' wh (.lst ((r.take n).map V.int))) := same_new hw
    have ew : upd H' wh (.lst ((r.take n).map V.int)) wh = some (.lst ((r.take n).map V.int)) := upd_same
    have el1 : upd H' wh (.lst ((r.take n).map V.int)) l = some (.lst vs) := by rw [upd_ne (ne_of_none el hw)]; exact el
    have nlw : l ≠ wh := ne_of_none el hw
    generalize upd H' wh (.lst ((r.take n).map V.int)) = H1 at *
    walk_at "ag rd"
    refine ⟨Nat.zero_le _, fun qa hq => ?_⟩
    have nlq : l ≠ qa := ne_of_none el1 hq
    have nwq : wh ≠ qa := ne_of_none ew hq
    have s2 : Same H' (upd H1 qa (.lst [])) := s1.new hq
    have s12 : Same H1 (upd H1 qa (.lst [])) := same_new hq
    have ew2 : upd H1 qa (.lst []) wh = some (.lst ((r.take n).map V.int)) := by rw [upd_ne nwq]; exact ew
    have el2 : upd H1 qa (.lst []) l = some (.lst vs) := by rw [upd_ne nlq]; exact el1
    have eq2 : upd H1 qa (.lst []) qa = some (.lst []) := upd_same
    have gq : H qa = none := (sm.trans s1).free hq
    have gw : H wh = none := sm.free hw
    generalize upd H1 qa (.lst []) = H2 at *
    walk_at "ag rd"
    refine ⟨by omega, by omega, for_range (lo := 0) (n := ((k : Nat) : Int).toNat) (RC ns (i + 1) a l qa wh p n k H H1 xs t) ?_ ?_ ?_⟩
    · refine ⟨i + 1 + n, [], [], xs, x8, x9, ?_, s12, eq2, .nil, ?_, rfl, by omega, rfl, by omega⟩
      · rw [← e2]
        rfl
      · rw [← List.drop_drop, d3]
        exact hrows
    · rintro j σ H3 hj ⟨i2, rs, dn, rst, y8, y9, rfl, sm3, eq3, ar, hr3, hdx, hi2, hlen, hlo⟩
      have hj' : j < k := by
        have : j < ((k : Nat) : Int).toNat := hj
        omega
      obtain ⟨k2, hk2⟩ : ∃ k2, k - j = k2 + 1 := ⟨k - j - 1, by omega⟩
      have hk3 : k - (j + 1) = k2 := by omega
      rw [hk2] at hr3
      obtain ⟨n2, r2, xs2, ed2, hn2, hr4, rfl⟩ := rows_step hr3
      obtain ⟨f1, f2, f3⟩ := drop_at ed2
      have hrl2 := congrArg List.length ed2
      rw [List.length_drop, List.length_cons] at hrl2
      have hS3 := ((sm.trans s1).trans sm3).seq hS
      walk_at "ag rd"
      refine ⟨a, _, _, _, rfl, rfl, hS3, at_int f2, ?_⟩
      walk_at "ag rd"
      refine ⟨.inl ⟨rfl, _, SqL.of eq3⟩, ?_⟩
      walk_at "ag rd"
      refine ⟨a, _, rfl, hS3, fun ra hra => ?_⟩
      have g1 : (i2 : Int) + 1 = ((i2 + 1 : Nat) : Int) := by omega
      have g2 : (i2 : Int) + 1 + (n2 : Int) = ((i2 + 1 + n2 : Nat) : Int) := by omega
      have gcut : cutV (ns.map V.int) (some ((i2 : Int) + 1)) (some ((i2 : Int) + 1 + (n2 : Int))) = (r2.take n2).map V.int := by
        rw [g2, g1, cut_slice (by omega) (by omega)]
        unfold slice
        rw [f3, Nat.add_sub_cancel_left]
      rw [gcut]
      have nqr : qa ≠ ra := ne_of_none eq3 hra
      have nlr : l ≠ ra := ne_of_none (sm3 _ _ el1) hra
      have s4 : Same H1 (upd H3 ra (.lst ((r2.take n2).map V.int))) := sm3.new hra
      have gr : H ra = none := ((sm.trans s1).trans sm3).free hra
      have eq4 : upd H3 ra (.lst ((r2.take n2).map V.int)) qa = some (.lst (rs.map V.ref)) := by rw [upd_ne nqr]; exact eq3
      have rl : rs.length ≤ 2 := by rw [ar.len, hlen]; omega
      have ar4 : All2 (rowAt (keep (inner H l qa) (upd (upd H3 ra (.lst ((r2.take n2).map V.int))) qa (.lst (rs.map V.ref ++ [.ref ra]))))) (rs ++ [ra]) (dn ++ [r2.take n2]) := by
        refine (ar.mono (rowAt_on (keep_mono (fun _ h => h) fun b o hb e => ?_))).snoc ?_
        · rw [upd_ne (inner_ne hb), upd_ne (ne_of_none e hra)]
          exact e
        · refine keep_at (inner_yes gr (Ne.symm nlr) (Ne.symm nqr)) ?_
          rw [upd_ne (Ne.symm nqr), upd_same]
      refine ⟨qa, _, _, rfl, rfl, eq4, ?_, ?_⟩
      · rw [List.length_map]
        exact small _ (by omega)
      refine ⟨_, rfl, i2 + 1 + n2, rs ++ [ra], dn ++ [r2.take n2], xs2, some (.int (0 + (j : Int))), some (.int ((i2 : Int) + 1 + (n2 : Int))), ?_, s4.chg hq, ?_, ar4, ?_, ?_, by omega, ?_, by omega⟩
      · rw [← g2]
        rfl
      · rw [upd_same, List.map_append]
        rfl
      · rw [hk3, ← List.drop_drop, f3]
        exact hr4
      · rw [← hdx, List.append_assoc]
        rfl
      · rw [List.length_append, hlen]
        rfl
    · rintro σ H3 ⟨i3, rs, dn, rst, y8, y9, rfl, sm3, eq3, ar, hr3, hdx, hi3, hlen, hlo⟩
      have hk0 : k - ((k : Nat) : Int).toNat = 0 := by omega
      rw [hk0] at hr3
      obtain ⟨rfl, ht⟩ := rows_zero hr3
      rw [List.append_nil] at hdx
      subst hdx
      have el3 := sm3 _ _ el1
      have ew3 := sm3 _ _ ew
      walk_at "ag rd"
      refine ⟨.inl ⟨rfl, _, SqL.of el3⟩, ?_⟩
      walk_at "ag rd"
      refine ⟨small' _ (by show 3 ≤ 16777216; decide), fun tt htt => ?_⟩
      have nlt : l ≠ tt := ne_of_none el3 htt
      have nwt : wh ≠ tt := ne_of_none ew3 htt
      have nqt : qa ≠ tt := ne_of_none eq3 htt
      have gt : H tt = none := ((sm.trans s1).trans sm3).free htt
      have vl : vs.length ≤ 30 := by
        have e5 := av.len
        have e6 := congrArg List.length hdr
        rw [List.length_append] at e6
        omega
      have el4 : upd H3 tt (.tup [.int p, .ref wh, .ref qa]) l = some (.lst vs) := by rw [upd_ne nlt]; exact el3
      walk_at "ag rd"
      refine ⟨l, _, _, rfl, rfl, el4, small _ (by omega), ?_⟩
      refine ⟨ns.length - i3, by omega, i3, f2, vs ++ [.ref tt], done ++ [(p :: r.take n) :: dn], cs', _, _, _, _, _, _, _, rfl, (((sm.trans s1).trans sm3).new htt).chg hl, upd_same, ?_, ?_, ?_, hi3, rfl⟩
      · refine (av.mono (CallAt.on (keep_mono (fun _ h => h) fun b o hb e => ?_))).snoc ?_
        · have e7 := sm3 _ _ (s1 _ _ e)
          rw [upd_ne (outer_ne hb), upd_ne (ne_of_none e7 htt)]
          exact e7
        · refine ⟨tt, p, wh, qa, rfl, ?_, r.take n, dn, rs, rfl, ?_, ?_, ?_⟩
          · refine keep_at (outer_yes gt (Ne.symm nlt)) ?_
            rw [upd_ne (Ne.symm nlt), upd_same]
          · refine keep_at (outer_yes gw (Ne.symm nlw)) ?_
            rw [upd_ne (Ne.symm nlw), upd_ne nwt]
            exact ew3
          · refine keep_at (outer_yes gq (Ne.symm nlq)) ?_
            rw [upd_ne (Ne.symm nlq), upd_ne nqt]
            exact eq3
          · refine ar.mono (rowAt_on (keep_mono (fun b h => inner_outer h) fun b o hb e => ?_))
            rw [upd_ne (outer_ne (inner_outer hb)), upd_ne (ne_of_none e htt)]
            exact e
      · rw [← ht]
        exact hcs
      · rw [← hdr, List.append_assoc]
        rfl
  · walk_at "ag rd"
    have hi' : i = ns.length := by omega
    have hn : ns.drop i = [] := by rw [hi']; exact List.drop_length
    rw [hn] at hcr
    have h0 := calls_nil hcr
    rw [h0, List.append_nil] at hdr
    rw [hdr] at av
    refine q H' l vs sm hl el ?_
    exact av.mono fun v c' h => h.on (keep_mono (fun b hb => Option.isNone_iff_eq_none.mpr (outer_free hb)) fun b o _ e => e)

/-! ### each call, answered -/
inductive Ask : List (List Int) → Prop
  | c1 (y m d : Int) : Ask [[1, y, m, d]]
  | c2 (n : Int) : Ask [[2, n]]
  | c3 (n : Int) : Ask [[3, n]]
  | c4 (t : List Int) (h : AgeNeutral.isText t = true) : Ask [[4], t]
  | c5 (y m k v : Int) : Ask [[5, y, m, k, v]]
  | c6 (t : List Int) (h : AgeNeutral.isText t = true) : Ask [[6], t]
  | c7 (a : List Int) : Ask [[7], a]
  | c8 (b : Int) (a : List Int) : Ask [[8, b], a]
  | c9 (b n : Int) : Ask [[9, b, n]]
  | c10 (a bs : List Int) (h : AgeNeutral.isRow bs = true) : Ask [[10], a, bs]
  | c11 (n : Int) (a : List Int) : Ask [[11, n], a]
  | c12 (lo hi : Int) (a c : List Int) : Ask [[12, lo, hi], a, c]
theorem ask_of {c : List (List Int)} (h : AgeNeutral.asked1 c = true) : Ask c := by
  unfold AgeNeutral.asked1 at h
  split at h
  · exact .c1 _ _ _
  · exact .c2 _
  · exact .c3 _
  · exact .c4 _ h
  · exact .c5 _ _ _ _
  · exact .c6 _ h
  · exact .c7 _
  · exact .c8 _ _
  · exact .c9 _ _
  · exact .c10 _ _ (Bool.and_eq_true _ _ ▸ h).2
  · exact .c11 _ _
  · exact .c12 _ _ _ _
  · cases h
def ansOf (c : List (List Int)) : List Int := (AgeNeutral.step () c).2
theorem text_of {t : List Int} (h : AgeNeutral.isText t = true) : NeutralIO.bytes t = true ∧ t.length ≤ 200 := by
  unfold AgeNeutral.isText at h
  rw [Bool.and_eq_true, decide_eq_true_eq] at h
  exact h
theorem row_of {t : List Int} (h : AgeNeutral.isRow t = true) : t.length ≤ 80 := by
  unfold AgeNeutral.isRow at h
  exact of_decide_eq_true h
theorem ArgAt.of0 {H : Hp} {p : Int} {w l : Addr} {k : Int} {xs : List Int} (h : ArgAt H p w l [k :: xs]) : p = k ∧ H w = some (.lst (xs.map V.int)) := by
  obtain ⟨xs', rows, rs, e, h1, h2, h3⟩ := h
  have e1 := List.cons.inj e
  have e2 := List.cons.inj e1.1
  rw [e2.2]
  exact ⟨e2.1.symm, h1⟩
theorem ArgAt.of1 {H : Hp} {p : Int} {w l : Addr} {k : Int} {xs a : List Int} (h : ArgAt H p w l [k :: xs, a]) : p = k ∧ H w = some (.lst (xs.map V.int)) ∧ ∃ r : Addr, H l = some (.lst [.ref r]) ∧ H r = some (.lst (a.map V.int)) := by
  obtain ⟨xs', rows, rs, e, h1, h2, h3⟩ := h
  have e1 := List.cons.inj e
  have e2 := List.cons.inj e1.1
  rw [e2.2]
  refine ⟨e2.1.symm, h1, ?_⟩
  have e3 := e1.2
  subst e3
  cases h3 with
  | cons x y =>
    cases y
    exact ⟨_, h2, x⟩
theorem ArgAt.of2 {H : Hp} {p : Int} {w l : Addr} {k : Int} {xs a b : List Int} (h : ArgAt H p w l [k :: xs, a, b]) : p = k ∧ H w = some (.lst (xs.map V.int)) ∧ ∃ r s : Addr, H l = some (.lst [.ref r, .ref s]) ∧ H r = some (.lst (a.map V.int)) ∧ H s = some (.lst (b.map V.int)) := by
  obtain ⟨xs', rows, rs, e, h1, h2, h3⟩ := h
  have e1 := List.cons.inj e
  have e2 := List.cons.inj e1.1
  rw [e2.2]
  refine ⟨e2.1.symm, h1, ?_⟩
  have e3 := e1.2
  subst e3
  cases h3 with
  | cons x y =>
    cases y with
    | cons x2 y2 =>
      cases y2
      exact ⟨_, _, h2, x, x2⟩

abbrev s_date_answer : Stmt := topS 93
abbrev N_date_answer : List Str := ["call", "whole", "lists"]
theorem sc_date_answer : FnScope N_date_answer ["call", "whole", "lists"] (defScope s_date_answer) := ⟨rfl, rfl, rfl, by decide +kernel, rfl, by decide +kernel, by decide +kernel⟩
def sp_date_answer : Sp := sIRR fun p v l H Q _ => ∃ c, p ≤ 5 ∧ Ask c ∧ ArgAt H p v l c ∧ ans H Q (ansOf c)
theorem ok_date_answer (T : Txt K mg aL aT aH) (D : Dfn K mg "date_answer" s_date_answer) (C_tell_day : Cal P w K mg base CX0 5 "tell_day" sp_tell_day) (C_tell_date : Cal P w K mg base CX0 5 "tell_date" sp_tell_date) (C_show : Cal P w K mg base CX0 6 "show" sp_show)
    (C_read : Cal P w K mg base CX0 6 "read" (sp_read K)) (C_nth : Cal P w K mg base CX0 6 "nth" sp_nth) : Cal P w K mg base CX0 7 "date_answer" sp_date_answer := by
  refine cal0 D sc_date_answer lIRR (fun _ _ _ _ _ _ us hl => match us, hl with | [_, _, _], _ => rfl) fun f cdv A outer s H vs Q E hr h => ?_
  obtain ⟨p, v, l, rfl, c, h5, hc, hA, q⟩ := h
  refine ⟨_, (pss_cons (ps_if (pt_cmpR op_eq (pv 0) pe_int (nomark _)) (pss_one (ps_ret (pe_f C_tell_day hr (by decide) (pa_cons (pe_ix ix_list (pv 1) pe_int (fun _ _ => rfl)) (pa_cons (pe_ix ix_list (pv 1) pe_int (fun _ _ => rfl)) (pa_cons (pe_ix ix_list (pv 1) pe_int (fun _ _ => rfl)) pa_nil)))))) pss_nil)
    (pss_cons (ps_if (pt_cmpR op_eq (pv 0) pe_int (nomark _)) (pss_one (ps_ret (pe_f C_tell_date hr (by decide) (pa_cons (pe_ix ix_list (pv 1) pe_int (fun _ _ => rfl)) pa_nil)))) pss_nil)
    (pss_cons (ps_if (pt_cmpR op_eq (pv 0) pe_int (nomark _)) (pss_one (ps_ret (pe_f C_show hr (by decide) (pa_cons (pe_ix ix_list (pv 1) pe_int (fun _ _ => rfl)) pa_nil)))) pss_nil)
    (pss_cons (ps_if (pt_cmpR op_eq (pv 0) pe_int (nomark _)) (pss_one (ps_ret (pe_f C_read hr (by decide) (pa_cons (pe_ix ix_list (pv 2) pe_int (fun _ _ => rfl)) pa_nil)))) pss_nil)
    (pss_one (ps_ret (pe_f C_nth hr (by decide) (pa_cons (pe_ix ix_list (pv 1) pe_int (fun _ _ => rfl)) (pa_cons (pe_ix ix_list (pv 1) pe_int (fun _ _ => rfl)) (pa_cons (pe_ix ix_list (pv 1) pe_int (fun _ _ => rfl)) (pa_cons (pe_ix ix_list (pv 1) pe_int (fun _ _ => rfl)) pa_nil))))))))))), ?_⟩
  cases hc with
  | c1 y m d =>
    obtain ⟨hp, hv⟩ := hA.of0
    walk_at "ag rd"
    refine of_eqI (fun _ => ?_) (fun z => absurd hp z)
    walk_at "ag rd"
    refine ⟨v, _, _, _, rfl, rfl, SqL.of hv, (show atI ([y, m, d].map V.int) 0 = some (.int y) from rfl), ?_⟩
    walk_at "ag rd"
    refine ⟨v, _, _, _, rfl, rfl, SqL.of hv, (show atI ([y, m, d].map V.int) 1 = some (.int m) from rfl), ?_⟩
    walk_at "ag rd"
    refine ⟨v, _, _, _, rfl, rfl, SqL.of hv, (show atI ([y, m, d].map V.int) 2 = some (.int d) from rfl), ?_⟩
    walk_at "ag rd"
    exact q
  | c2 n =>
    obtain ⟨hp, hv⟩ := hA.of0
    walk_at "ag rd"
    refine of_eqI (fun z => absurd (hp.symm.trans z) (by decide)) (fun _ => ?_)
    walk_at "ag rd"
    refine of_eqI (fun _ => ?_) (fun z => absurd hp z)
    walk_at "ag rd"
    refine ⟨v, _, _, _, rfl, rfl, SqL.of hv, (show atI ([n].map V.int) 0 = some (.int n) from rfl), ?_⟩
    walk_at "ag rd"
    exact q
  | c3 n =>
    obtain ⟨hp, hv⟩ := hA.of0
    walk_at "ag rd"
    refine of_eqI (fun z => absurd (hp.symm.trans z) (by decide)) (fun _ => ?_)
    walk_at "ag rd"
    refine of_eqI (fun z => absurd (hp.symm.trans z) (by decide)) (fun _ => ?_)
    walk_at "ag rd"
    refine of_eqI (fun _ => ?_) (fun z => absurd hp z)
    walk_at "ag rd"
    refine ⟨v, _, _, _, rfl, rfl, SqL.of hv, (show atI ([n].map V.int) 0 = some (.int n) from rfl), ?_⟩
    walk_at "ag rd"
    exact q
  | c4 t ht =>
    obtain ⟨hp, hv, r, hl, hr'⟩ := hA.of1
    obtain ⟨hb, hn⟩ := text_of ht
    walk_at "ag rd"
    refine of_eqI (fun z => absurd (hp.symm.trans z) (by decide)) (fun _ => ?_)
    walk_at "ag rd"
    refine of_eqI (fun z => absurd (hp.symm.trans z) (by decide)) (fun _ => ?_)
    walk_at "ag rd"
    refine of_eqI (fun z => absurd (hp.symm.trans z) (by decide)) (fun _ => ?_)
    walk_at "ag rd"
    refine of_eqI (fun _ => ?_) (fun z => absurd hp z)
    walk_at "ag rd"
    refine ⟨l, _, _, _, rfl, rfl, SqL.of hl, (show atI [V.ref r] 0 = some (.ref r) from rfl), ?_⟩
    walk_at "ag rd"
    refine ⟨t, SqL.of hr', ?_⟩
    rw [a_read t hb]
    exact q
  | c5 y m k x =>
    obtain ⟨hp, hv⟩ := hA.of0
    walk_at "ag rd"
    refine of_eqI (fun z => absurd (hp.symm.trans z) (by decide)) (fun _ => ?_)
    walk_at "ag rd"
    refine of_eqI (fun z => absurd (hp.symm.trans z) (by decide)) (fun _ => ?_)
    walk_at "ag rd"
    refine of_eqI (fun z => absurd (hp.symm.trans z) (by decide)) (fun _ => ?_)
    walk_at "ag rd"
    refine of_eqI (fun z => absurd (hp.symm.trans z) (by decide)) (fun _ => ?_)
    walk_at "ag rd"
    refine ⟨v, _, _, _, rfl, rfl, SqL.of hv, (show atI ([y, m, k, x].map V.int) 0 = some (.int y) from rfl), ?_⟩
    walk_at "ag rd"
    refine ⟨v, _, _, _, rfl, rfl, SqL.of hv, (show atI ([y, m, k, x].map V.int) 1 = some (.int m) from rfl), ?_⟩
    walk_at "ag rd"
    refine ⟨v, _, _, _, rfl, rfl, SqL.of hv, (show atI ([y, m, k, x].map V.int) 2 = some (.int k) from rfl), ?_⟩
    walk_at "ag rd"
    refine ⟨v, _, _, _, rfl, rfl, SqL.of hv, (show atI ([y, m, k, x].map V.int) 3 = some (.int x) from rfl), ?_⟩
    walk_at "ag rd"
    exact q
  | c6 t => have := hA.of1.1; omega
  | c7 a => have := hA.of1.1; omega
  | c8 b a => have := hA.of1.1; omega
  | c9 b n => have := hA.of0.1; omega
  | c10 a bs => have := hA.of2.1; omega
  | c11 n a => have := hA.of1.1; omega
  | c12 lo hi a c => have := hA.of2.1; omega

abbrev s_age_answer : Stmt := topS 94
abbrev N_age_answer : List Str := ["call", "whole", "lists"]
theorem sc_age_answer : FnScope N_age_answer ["call", "whole", "lists"] (defScope s_age_answer) := ⟨rfl, rfl, rfl, by decide +kernel, rfl, by decide +kernel, by decide +kernel⟩
def sp_age_answer : Sp := sIRR fun p v l H Q _ => ∃ c, ¬ p ≤ 5 ∧ Ask c ∧ ArgAt H p v l c ∧ ans H Q (ansOf c)
theorem ok_age_answer (T : Txt K mg aL aT aH) (D : Dfn K mg "age_answer" s_age_answer) (C_tell_age : Cal P w K mg base CX0 7 "tell_age" (sp_tell_age K)) (C_write : Cal P w K mg base CX0 3 "write" (sp_write K)) (C_on : Cal P w K mg base CX0 8 "on" (sp_on K)) (C_old : Cal P w K mg base CX0 7 "old" sp_old)
    (C_row : Cal P w K mg base CX0 8 "row" (sp_row K)) (C_born : Cal P w K mg base CX0 8 "born" (sp_born K)) (C_sooner : Cal P w K mg base CX0 9 "sooner" (sp_sooner K)) : Cal P w K mg base CX0 10 "age_answer" sp_age_answer := by
  refine cal0 D sc_age_answer lIRR (fun _ _ _ _ _ _ us hl => match us, hl with | [_, _, _], _ => rfl) fun f cdv A outer s H vs Q E hr h => ?_
  obtain ⟨p, v, l, rfl, c, h5, hc, hA, q⟩ := h
  refine ⟨_, (pss_cons (ps_if (pt_cmpR op_eq (pv 0) pe_int (nomark _)) (pss_one (ps_ret (pe_f C_tell_age hr (by decide) (pa_cons (pe_ix ix_list (pv 2) pe_int (fun _ _ => rfl)) pa_nil)))) pss_nil)
    (pss_cons (ps_if (pt_cmpR op_eq (pv 0) pe_int (nomark _)) (pss_one (ps_ret (pe_f C_write hr (by decide) (pa_cons (pe_ix ix_list (pv 2) pe_int (fun _ _ => rfl)) pa_nil)))) pss_nil)
    (pss_cons (ps_if (pt_cmpR op_eq (pv 0) pe_int (nomark _)) (pss_one (ps_ret (pe_f C_on hr (by decide) (pa_cons (pe_ix ix_list (pv 1) pe_int (fun _ _ => rfl)) (pa_cons (pe_ix ix_list (pv 2) pe_int (fun _ _ => rfl)) pa_nil))))) pss_nil)
    (pss_cons (ps_if (pt_cmpR op_eq (pv 0) pe_int (nomark _)) (pss_one (ps_ret (pe_f C_old hr (by decide) (pa_cons (pe_ix ix_list (pv 1) pe_int (fun _ _ => rfl)) (pa_cons (pe_ix ix_list (pv 1) pe_int (fun _ _ => rfl)) pa_nil))))) pss_nil)
    (pss_cons (ps_if (pt_cmpR op_eq (pv 0) pe_int (nomark _)) (pss_one (ps_ret (pe_f C_row hr (by decide) (pa_cons (pe_ix ix_list (pv 2) pe_int (fun _ _ => rfl)) (pa_cons (pe_ix ix_list (pv 2) pe_int (fun _ _ => rfl)) pa_nil))))) pss_nil)
    (pss_cons (ps_if (pt_cmpR op_eq (pv 0) pe_int (nomark _)) (pss_one (ps_ret (pe_f C_born hr (by decide) (pa_cons (pe_ix ix_list (pv 1) pe_int (fun _ _ => rfl)) (pa_cons (pe_ix ix_list (pv 2) pe_int (fun _ _ => rfl)) pa_nil))))) pss_nil)
    (pss_one (ps_ret (pe_f C_sooner hr (by decide) (pa_cons (pe_ix ix_list (pv 1) pe_int (fun _ _ => rfl)) (pa_cons (pe_ix ix_list (pv 1) pe_int (fun _ _ => rfl)) (pa_cons (pe_ix ix_list (pv 2) pe_int (fun _ _ => rfl)) (pa_cons (pe_ix ix_list (pv 2) pe_int (fun _ _ => rfl)) pa_nil))))))))))))), ?_⟩
  cases hc with
  | c1 y m d => have := hA.of0.1; omega
  | c2 n => have := hA.of0.1; omega
  | c3 n => have := hA.of0.1; omega
  | c4 t => have := hA.of1.1; omega
  | c5 y m k x => have := hA.of0.1; omega
  | c6 t ht =>
    obtain ⟨hp, hv, r, hl, hr'⟩ := hA.of1
    obtain ⟨hb, hn⟩ := text_of ht
    walk_at "ag rd"
    refine of_eqI (fun _ => ?_) (fun z => absurd hp z)
    walk_at "ag rd"
    refine ⟨l, _, _, _, rfl, rfl, SqL.of hl, (show atI [V.ref r] 0 = some (.ref r) from rfl), ?_⟩
    walk_at "ag rd"
    refine ⟨t, SqL.of hr', hn, ?_⟩
    rw [a_age t hb]
    exact q
  | c7 a =>
    obtain ⟨hp, hv, r, hl, hr'⟩ := hA.of1
    walk_at "ag rd"
    refine of_eqI (fun z => absurd (hp.symm.trans z) (by decide)) (fun _ => ?_)
    walk_at "ag rd"
    refine of_eqI (fun _ => ?_) (fun z => absurd hp z)
    walk_at "ag rd"
    refine ⟨l, _, _, _, rfl, rfl, SqL.of hl, (show atI [V.ref r] 0 = some (.ref r) from rfl), ?_⟩
    walk_at "ag rd"
    refine ⟨a, SqL.of hr', ?_⟩
    rw [a_write a]
    exact q
  | c8 b a =>
    obtain ⟨hp, hv, r, hl, hr'⟩ := hA.of1
    walk_at "ag rd"
    refine of_eqI (fun z => absurd (hp.symm.trans z) (by decide)) (fun _ => ?_)
    walk_at "ag rd"
    refine of_eqI (fun z => absurd (hp.symm.trans z) (by decide)) (fun _ => ?_)
    walk_at "ag rd"
    refine of_eqI (fun _ => ?_) (fun z => absurd hp z)
    walk_at "ag rd"
    refine ⟨v, _, _, _, rfl, rfl, SqL.of hv, (show atI ([b].map V.int) 0 = some (.int b) from rfl), ?_⟩
    walk_at "ag rd"
    refine ⟨l, _, _, _, rfl, rfl, SqL.of hl, (show atI [V.ref r] 0 = some (.ref r) from rfl), ?_⟩
    walk_at "ag rd"
    exact ⟨a, SqL.of hr', q⟩
  | c9 b n =>
    obtain ⟨hp, hv⟩ := hA.of0
    walk_at "ag rd"
    refine of_eqI (fun z => absurd (hp.symm.trans z) (by decide)) (fun _ => ?_)
    walk_at "ag rd"
    refine of_eqI (fun z => absurd (hp.symm.trans z) (by decide)) (fun _ => ?_)
    walk_at "ag rd"
    refine of_eqI (fun z => absurd (hp.symm.trans z) (by decide)) (fun _ => ?_)
    walk_at "ag rd"
    refine of_eqI (fun _ => ?_) (fun z => absurd hp z)
    walk_at "ag rd"
    refine ⟨v, _, _, _, rfl, rfl, SqL.of hv, (show atI ([b, n].map V.int) 0 = some (.int b) from rfl), ?_⟩
    walk_at "ag rd"
    refine ⟨v, _, _, _, rfl, rfl, SqL.of hv, (show atI ([b, n].map V.int) 1 = some (.int n) from rfl), ?_⟩
    walk_at "ag rd"
    exact q
  | c10 a bs hb =>
    obtain ⟨hp, hv, r, r2, hl, hr', hr2⟩ := hA.of2
    have hn := row_of hb
    walk_at "ag rd"
    refine of_eqI (fun z => absurd (hp.symm.trans z) (by decide)) (fun _ => ?_)
    walk_at "ag rd"
    refine of_eqI (fun z => absurd (hp.symm.trans z) (by decide)) (fun _ => ?_)
    walk_at "ag rd"
    refine of_eqI (fun z => absurd (hp.symm.trans z) (by decide)) (fun _ => ?_)
    walk_at "ag rd"
    refine of_eqI (fun z => absurd (hp.symm.trans z) (by decide)) (fun _ => ?_)
    walk_at "ag rd"
    refine of_eqI (fun _ => ?_) (fun z => absurd hp z)
    walk_at "ag rd"
    refine ⟨l, _, _, _, rfl, rfl, SqL.of hl, (show atI [V.ref r, V.ref r2] 0 = some (.ref r) from rfl), ?_⟩
    walk_at "ag rd"
    refine ⟨l, _, _, _, rfl, rfl, SqL.of hl, (show atI [V.ref r, V.ref r2] 1 = some (.ref r2) from rfl), ?_⟩
    walk_at "ag rd"
    exact ⟨a, bs, SqL.of hr', SqL.of hr2, by omega, q⟩
  | c11 n a =>
    obtain ⟨hp, hv, r, hl, hr'⟩ := hA.of1
    walk_at "ag rd"
    refine of_eqI (fun z => absurd (hp.symm.trans z) (by decide)) (fun _ => ?_)
    walk_at "ag rd"
    refine of_eqI (fun z => absurd (hp.symm.trans z) (by decide)) (fun _ => ?_)
    walk_at "ag rd"
    refine of_eqI (fun z => absurd (hp.symm.trans z) (by decide)) (fun _ => ?_)
    walk_at "ag rd"
    refine of_eqI (fun z => absurd (hp.symm.trans z) (by decide)) (fun _ => ?_)
    walk_at "ag rd"
    refine of_eqI (fun z => absurd (hp.symm.trans z) (by decide)) (fun _ => ?_)
    walk_at "ag rd"
    refine of_eqI (fun _ => ?_) (fun z => absurd hp z)
    walk_at "ag rd"
    refine ⟨v, _, _, _, rfl, rfl, SqL.of hv, (show atI ([n].map V.int) 0 = some (.int n) from rfl), ?_⟩
    walk_at "ag rd"
    refine ⟨l, _, _, _, rfl, rfl, SqL.of hl, (show atI [V.ref r] 0 = some (.ref r) from rfl), ?_⟩
    walk_at "ag rd"
    exact ⟨a, SqL.of hr', q⟩
  | c12 lo hi a c =>
    obtain ⟨hp, hv, r, r2, hl, hr', hr2⟩ := hA.of2
    walk_at "ag rd"
    refine of_eqI (fun z => absurd (hp.symm.trans z) (by decide)) (fun _ => ?_)
    walk_at "ag rd"
    refine of_eqI (fun z => absurd (hp.symm.trans z) (by decide)) (fun _ => ?_)
    walk_at "ag rd"
    refine of_eqI (fun z => absurd (hp.symm.trans z) (by decide)) (fun _ => ?_)
    walk_at "ag rd"
    refine of_eqI (fun z => absurd (hp.symm.trans z) (by decide)) (fun _ => ?_)
    walk_at "ag rd"
    refine of_eqI (fun z => absurd (hp.symm.trans z) (by decide)) (fun _ => ?_)
    walk_at "ag rd"
    refine of_eqI (fun z => absurd (hp.symm.trans z) (by decide)) (fun _ => ?_)
    walk_at "ag rd"
    refine ⟨v, _, _, _, rfl, rfl, SqL.of hv, (show atI ([lo, hi].map V.int) 0 = some (.int lo) from rfl), ?_⟩
    walk_at "ag rd"
    refine ⟨v, _, _, _, rfl, rfl, SqL.of hv, (show atI ([lo, hi].map V.int) 1 = some (.int hi) from rfl), ?_⟩
    walk_at "ag rd"
    refine ⟨l, _, _, _, rfl, rfl, SqL.of hl, (show atI [V.ref r, V.ref r2] 0 = some (.ref r) from rfl), ?_⟩
    walk_at "ag rd"
    refine ⟨l, _, _, _, rfl, rfl, SqL.of hl, (show atI [V.ref r, V.ref r2] 1 = some (.ref r2) from rfl), ?_⟩
    walk_at "ag rd"
    exact ⟨a, c, SqL.of hr', SqL.of hr2, q⟩
end
end Ag

/-! answers. -/
namespace Ag
open PySem PySem.Spec PyProof.Rows L2 PySem.FauX
section
variable {P : Program} {w : World} {K : PySem.W.Frag} {mg : Str → Option Value} {base : Heap} {aL aT aH C fI aS : Addr}
theorem whole_id (c : List (List Int)) : PyWrvaxa.whole c = c := by
  unfold PyWrvaxa.whole
  split <;> rfl
theorem played_eq : ∀ (cs : List (List (List Int))) (s : AgeNeutral.State), PyFlat.played AgeNeutral.step s cs = cs.map ansOf
  | [], _ => rfl
  | c :: r, s => by
    show (AgeNeutral.step s c).2 :: PyFlat.played AgeNeutral.step (AgeNeutral.step s c).1 r = ansOf c :: r.map ansOf
    rw [played_eq r]
    rfl
theorem answers_eq {ns : List Int} {cs : List (List (List Int))} (h : PyFlat.calls PyWrvaxa.shape ns.length ns = some cs) : PyWrvaxa.answers ns = PyFlat.told (cs.map ansOf) := by
  unfold PyWrvaxa.answers PyWrvaxa.calls
  rw [h]
  dsimp only
  rw [played_eq]
  have e : cs.map PyWrvaxa.whole = cs := by
    rw [List.map_congr_left (fun c _ => whole_id c)]
    exact List.map_id' cs
  rw [e]
theorem asked_parts {ns : List Int} (h : PyWrvaxa.answers_asked ns = true) : ∃ cs, PyFlat.calls PyWrvaxa.shape ns.length ns = some cs ∧ cs.length ≤ 30 ∧ (∀ c ∈ cs, Ask c) ∧ PyWrvaxa.answers ns = PyFlat.told (cs.map ansOf) ∧ (PyFlat.told (cs.map ansOf)).length ≤ 10000000 := by
  unfold PyWrvaxa.answers_asked at h
  cases hc : PyFlat.calls PyWrvaxa.shape ns.length ns with
  | none => rw [hc] at h; cases h
  | some raw =>
    rw [hc] at h
    dsimp only at h
    rw [Bool.and_eq_true, Bool.and_eq_true, Bool.and_eq_true, Bool.and_eq_true] at h
    obtain ⟨⟨⟨⟨_, h1⟩, _⟩, h2⟩, h3⟩ := h
    have ea := answers_eq hc
    refine ⟨raw, rfl, of_decide_eq_true h1, fun c hm => ?_, ea, ?_⟩
    · unfold AgeNeutral.asked at h2
      rw [Bool.and_eq_true] at h2
      have q := List.all_eq_true.mp h2.1 (PyWrvaxa.whole c) (List.mem_map_of_mem hm)
      rw [whole_id] at q
      exact ask_of q
    · rw [← ea]
      exact of_decide_eq_true h3
theorem told_more {l : List (List Int)} {i : Nat} {x : List Int} (h : l[i]? = some x) : PyFlat.told (l.take (i + 1)) = PyFlat.told (l.take i) ++ ((x.length : Int) :: x) := by
  unfold PyFlat.told
  rw [take_more h, List.flatMap_append]
  show _ ++ ((x.length : Int) :: x ++ []) = _
  rw [List.append_nil]
theorem told_len (l : List (List Int)) (i : Nat) : (PyFlat.told (l.take i)).length ≤ (PyFlat.told l).length := by
  have e : PyFlat.told l = PyFlat.told (l.take i) ++ PyFlat.told (l.drop i) := by
    unfold PyFlat.told
    rw [← List.flatMap_append, List.take_append_drop]
  rw [e, List.length_append]
  omega

abbrev s_answers : Stmt := topS 95
abbrev N_answers : List Str := ["calls", "told", "call", "whole", "lists", "answer"]
theorem sc_answers : FnScope N_answers ["calls"] (defScope s_answers) := ⟨rfl, rfl, rfl, by decide +kernel, rfl, by decide +kernel, by decide +kernel⟩
def sp_answers (K : PySem.W.Frag) : Sp := sR fun a H Q _ => ∃ ns : List Int, SqL K H a (ns.map V.int) ∧ PyWrvaxa.answers_asked ns = true ∧ ans H Q (PyWrvaxa.answers ns)
theorem ok_answers {f : Addr} {fd : FuncData} (T : Txt K mg aL aT aH) (F : Fun K "answers" "answers" s_answers f fd) (C_cut_calls : Cal P w K mg base CX0 1 "cut_calls" (sp_cut_calls K)) (C_date_answer : Cal P w K mg base CX0 7 "date_answer" sp_date_answer) (C_age_answer : Cal P w K mg base CX0 10 "age_answer" sp_age_answer) :
    FnOk P w K mg base CX0 11 f fd ["calls"] (sp_answers K) := by
  refine F.ok sc_answers lR (fun cdv A outer s H vs Q E hr h => ?_)
  obtain ⟨a, rfl, ns, hS, hq, q⟩ := h
  refine ⟨_, (pss_cons (ps_set (i := 1) sc_answers.nd rfl (Or.inl rfl) (pe_lst pa_nil))
    (pss_cons (ps_for PassesOwn.never rfl (pi_list (pe_f C_cut_calls hr (by decide) (pa_cons (pv 0) pa_nil))) (pg_tup (by rfl) (pgs_cons (pg_name (i := 2) sc_answers.nd rfl (Or.inl rfl)) (pgs_cons (pg_name (i := 3) sc_answers.nd rfl (Or.inl rfl)) (pgs_cons (pg_name (i := 4) sc_answers.nd rfl (Or.inl rfl)) pgs_nil))))
    (pss_cons (ps_set (i := 5) sc_answers.nd rfl (Or.inl rfl) (pe_ifExp (pt_cmpR op_le (pv 2) pe_int (nomark _)) (pe_f C_date_answer hr (by decide) (pa_cons (pv 2) (pa_cons (pv 3) (pa_cons (pv 4) pa_nil)))) (pe_f C_age_answer hr (by decide) (pa_cons (pv 2) (pa_cons (pv 3) (pa_cons (pv 4) pa_nil))))))
    (pss_cons (ps_expr (pe_bm PySem.F.plainAttrs_list PySem.F.slot_list_append PySem.F.type_list_append mt_append (pv 1) (pa_cons (pe_callB call_len_seq (by rfl) T.fr.n_len (by decide +kernel) (pa_cons (pv 5) pa_nil)) pa_nil)))
    (pss_one (ps_expr (pe_bm PySem.F.plainAttrs_list PySem.F.slot_list_extend PySem.F.type_list_extend mt_extend (pv 1) (pa_cons (pv 5) pa_nil)))))))
    (pss_one (ps_ret (pv 1))))), ?_⟩
  obtain ⟨cs, hc, h30, hask, ea, hlen⟩ := asked_parts hq
  rw [ea] at q
  walk_at "ag rd"
  refine ⟨Nat.zero_le _, fun tl htl => ?_⟩
  walk_at "ag rd"
  refine ⟨ns, cs, (same_new htl).seq hS, hc, h30, fun H1 p vs s1 np e1 av => ?_⟩
  have etl : upd H tl (.lst []) tl = some (.lst []) := upd_same
  have ntp : tl ≠ p := ne_of_none etl np
  have hG0 : keep (fresh (upd H tl (.lst []))) H1 tl = none := keep_not (by unfold fresh; rw [etl]; rfl)
  have hGp : keep (fresh (upd H tl (.lst []))) H1 p = some (.lst vs) := keep_at (by unfold fresh; rw [np]; rfl) e1
  have hGs : Same (keep (fresh (upd H tl (.lst []))) H1) H1 := keep_same _ _
  have etl1 := s1 _ _ etl
  have sH : Same H H1 := (same_new htl).trans s1
  generalize keep (fresh (upd H tl (.lst []))) H1 = G at *
  generalize hT : cs.map ansOf = T at *
  refine ⟨p, rfl, ⟨_, SqL.of e1⟩, for_list (K := K) (a := p) (xs := vs)
    (fun i σ H' => ∃ x2 x3 x4 x5, σ = [some (.ref a), some (.ref tl), x2, x3, x4, x5] ∧ Same H H' ∧ Same G H' ∧ H' tl = some (.lst ((PyFlat.told (T.take i)).map V.int))) ⟨none, none, none, none, rfl, sH, hGs, etl1⟩ (fun i σ H' _ ⟨_, _, _, _, _, _, sg, _⟩ => SqL.of (sg _ _ hGp)) ?_ ?_⟩
  · rintro i y σ H' hi ⟨x2, x3, x4, x5, rfl, sm, sg, et⟩
    obtain ⟨c, hci, hca⟩ := av.at hi
    obtain ⟨t, p', v, l, rfl, ett, hA⟩ := hca.on sg
    have hak := hask c (List.mem_of_getElem? hci)
    have hTi : T[i]? = some (ansOf c) := by
      rw [← hT, List.getElem?_map, hci]
      rfl
    have tm := told_more hTi
    have l1 := told_len T i
    have l2 := told_len T (i + 1)
    rw [tm, List.length_append, List.length_cons] at l2
    refine ⟨t, _, rfl, SqT.of ett, rfl, _, _, rfl, _, _, rfl, _, _, rfl, rfl, ?_⟩
    walk_at "ag rd"
    refine of_decide (fun h5 => ?_) (fun h5 => ?_)
    all_goals
      walk_at "ag rd"
      refine ⟨c, h5, hak, hA, fun H2 r s2 nr er => ?_⟩
      have et2 := s2 _ _ et
      have ntr : tl ≠ r := ne_of_none et nr
      walk_at "ag rd"
      refine ⟨.inl ⟨rfl, _, SqL.of et2⟩, ?_⟩
      walk_at "ag rd"
      refine ⟨_, _, rfl, .inl (SqL.of er), ?_⟩
      walk_at "ag rd"
      refine ⟨tl, _, _, rfl, rfl, et2, ?_, ?_⟩
      · rw [List.length_map]
        exact small _ (by omega)
      walk_at "ag rd"
      have er3 : ∀ o, upd H2 tl o r = some (.lst ((ansOf c).map V.int)) := fun o => by rw [upd_ne (Ne.symm ntr)]; exact er
      refine ⟨.inl ⟨rfl, _, SqL.of upd_same⟩, ?_⟩
      walk_at "ag rd"
      refine ⟨tl, r, _, _, rfl, rfl, upd_same, er3 _, ?_, ?_⟩
      · refine small' _ ?_
        rw [List.length_append, List.length_map, List.length_map]
        show (PyFlat.told (T.take i)).length + 1 + (ansOf c).length ≤ 16777216
        omega
      refine ⟨_, _, _, _, rfl, ((sm.trans s2).chg htl).chg htl, ((sg.trans s2).chg hG0).chg hG0, ?_⟩
      rw [upd_same, tm, List.map_append, List.append_assoc, List.length_map]
      rfl
  · rintro σ H' ⟨x2, x3, x4, x5, rfl, sm, sg, et⟩
    walk_at "ag rd"
    refine q H' tl sm htl ?_
    have el : T.length ≤ vs.length := by
      rw [← hT, List.length_map]
      exact Nat.le_of_eq av.len.symm
    rw [et, List.take_of_length_le el]
end
end Ag

/-! What is read off the written heap; the claim. -/
namespace Ag
open PySem PySem.Spec PyProof.Rows L2 PySem.FauX
section
variable {K : PySem.W.Frag} {mg : Str → Option Value} {h : Heap}
theorem tup_L {a : Addr} {d : Option Addr} {n : Nat} {sl : Array (Option Value)} {t0 t1 t2 t3 t4 t5 t6 t7 t8 t9 t10 t11 : Tok} (l : K.lookup a = some ⟨.type "tuple", d, .seq #[.int 31 t0, .int 28 t1, .int 31 t2, .int 30 t3, .int 31 t4, .int 30 t5, .int 31 t6, .int 31 t7, .int 30 t8, .int 31 t9, .int 30 t10, .int 31 t11] n, sl⟩) : ∀ H, SqT K H a ([31, 28, 31, 30, 31, 30, 31, 31, 30, 31, 30, 31].map V.int) := fun H => .inr ⟨_, _, _, l, rfl, rfl, small' _ (by show 12 ≤ 16777216; decide), .cons ⟨_, rfl⟩ (.cons ⟨_, rfl⟩ (.cons ⟨_, rfl⟩ (.cons ⟨_, rfl⟩ (.cons ⟨_, rfl⟩ (.cons ⟨_, rfl⟩ (.cons ⟨_, rfl⟩ (.cons ⟨_, rfl⟩ (.cons ⟨_, rfl⟩ (.cons ⟨_, rfl⟩ (.cons ⟨_, rfl⟩ (.cons ⟨_, rfl⟩ (.nil))))))))))))⟩
theorem tup_T {a : Addr} {d : Option Addr} {n : Nat} {sl : Array (Option Value)} {t0 t1 t2 t3 : Tok} (l : K.lookup a = some ⟨.type "tuple", d, .seq #[.int 121 t0, .int 109 t1, .int 119 t2, .int 100 t3] n, sl⟩) : ∀ H, SqT K H a ([121, 109, 119, 100].map V.int) := fun H => .inr ⟨_, _, _, l, rfl, rfl, small' _ (by show 4 ≤ 16777216; decide), .cons ⟨_, rfl⟩ (.cons ⟨_, rfl⟩ (.cons ⟨_, rfl⟩ (.cons ⟨_, rfl⟩ (.nil))))⟩
theorem tup_H {a : Addr} {d : Option Addr} {n : Nat} {sl : Array (Option Value)} {t0 t1 : Tok} (l : K.lookup a = some ⟨.type "tuple", d, .seq #[.int 4 t0, .int 7 t1] n, sl⟩) : ∀ H, SqT K H a ([4, 7].map V.int) := fun H => .inr ⟨_, _, _, l, rfl, rfl, small' _ (by show 2 ≤ 16777216; decide), .cons ⟨_, rfl⟩ (.cons ⟨_, rfl⟩ (.nil))⟩
theorem tup_2 {a : Addr} {d : Option Addr} {n : Nat} {sl : Array (Option Value)} {t u : Tok} {i j : Int} (l : K.lookup a = some ⟨.type "tuple", d, .seq #[.int i t, .int j u] n, sl⟩) : ∀ H, SqT K H a [.int i, .int j] := fun H => .inr ⟨_, _, _, l, rfl, rfl, small' _ (by show 2 ≤ 16777216; decide), .cons ⟨_, rfl⟩ (.cons ⟨_, rfl⟩ .nil)⟩
theorem sh_keys {t1 t2 t3 t4 t5 t6 t7 t8 t9 t10 t11 t12 : Tok} {a1 a2 a3 a4 a5 a6 a7 a8 a9 a10 a11 a12 : Addr} : IntKeys #[⟨1, .int 1 t1, .ref a1⟩, ⟨2, .int 2 t2, .ref a2⟩, ⟨3, .int 3 t3, .ref a3⟩, ⟨4, .int 4 t4, .ref a4⟩, ⟨5, .int 5 t5, .ref a5⟩, ⟨6, .int 6 t6, .ref a6⟩, ⟨7, .int 7 t7, .ref a7⟩, ⟨8, .int 8 t8, .ref a8⟩, ⟨9, .int 9 t9, .ref a9⟩, ⟨10, .int 10 t10, .ref a10⟩, ⟨11, .int 11 t11, .ref a11⟩, ⟨12, .int 12 t12, .ref a12⟩] := by
  intro e he
  have he := Array.mem_toList_iff.mpr he
  simp only [List.mem_cons, List.not_mem_nil, or_false] at he
  rcases he with rfl | rfl | rfl | rfl | rfl | rfl | rfl | rfl | rfl | rfl | rfl | rfl
  · exact ⟨_, _, rfl, (by show (1 : Int) = hashInt 1; decide +kernel)⟩
  · exact ⟨_, _, rfl, (by show (2 : Int) = hashInt 2; decide +kernel)⟩
  · exact ⟨_, _, rfl, (by show (3 : Int) = hashInt 3; decide +kernel)⟩
  · exact ⟨_, _, rfl, (by show (4 : Int) = hashInt 4; decide +kernel)⟩
  · exact ⟨_, _, rfl, (by show (5 : Int) = hashInt 5; decide +kernel)⟩
  · exact ⟨_, _, rfl, (by show (6 : Int) = hashInt 6; decide +kernel)⟩
  · exact ⟨_, _, rfl, (by show (7 : Int) = hashInt 7; decide +kernel)⟩
  · exact ⟨_, _, rfl, (by show (8 : Int) = hashInt 8; decide +kernel)⟩
  · exact ⟨_, _, rfl, (by show (9 : Int) = hashInt 9; decide +kernel)⟩
  · exact ⟨_, _, rfl, (by show (10 : Int) = hashInt 10; decide +kernel)⟩
  · exact ⟨_, _, rfl, (by show (11 : Int) = hashInt 11; decide +kernel)⟩
  · exact ⟨_, _, rfl, (by show (12 : Int) = hashInt 12; decide +kernel)⟩
theorem sh_cases {p : Int} {n k : Nat} (h : PyWrvaxa.shape p = some (n, k)) : (p = 1 ∧ n = 3 ∧ k = 0) ∨ (p = 2 ∧ n = 1 ∧ k = 0) ∨ (p = 3 ∧ n = 1 ∧ k = 0) ∨ (p = 4 ∧ n = 0 ∧ k = 1) ∨ (p = 5 ∧ n = 4 ∧ k = 0) ∨ (p = 6 ∧ n = 0 ∧ k = 1) ∨ (p = 7 ∧ n = 0 ∧ k = 1) ∨ (p = 8 ∧ n = 1 ∧ k = 1) ∨ (p = 9 ∧ n = 2 ∧ k = 0) ∨ (p = 10 ∧ n = 0 ∧ k = 2) ∨ (p = 11 ∧ n = 1 ∧ k = 1) ∨ (p = 12 ∧ n = 2 ∧ k = 2) := by
  unfold PyWrvaxa.shape at h
  by_cases h1 : p = 1
  · rw [if_pos h1] at h; have e := Prod.mk.inj (Option.some.inj h); exact .inl ⟨h1, e.1.symm, e.2.symm⟩
  rw [if_neg h1] at h
  by_cases h2 : p = 2
  · rw [if_pos h2] at h; have e := Prod.mk.inj (Option.some.inj h); exact .inr (.inl ⟨h2, e.1.symm, e.2.symm⟩)
  rw [if_neg h2] at h
  by_cases h3 : p = 3
  · rw [if_pos h3] at h; have e := Prod.mk.inj (Option.some.inj h); exact .inr (.inr (.inl ⟨h3, e.1.symm, e.2.symm⟩))
  rw [if_neg h3] at h
  by_cases h4 : p = 4
  · rw [if_pos h4] at h; have e := Prod.mk.inj (Option.some.inj h); exact .inr (.inr (.inr (.inl ⟨h4, e.1.symm, e.2.symm⟩)))
  rw [if_neg h4] at h
  by_cases h5 : p = 5
  · rw [if_pos h5] at h; have e := Prod.mk.inj (Option.some.inj h); exact .inr (.inr (.inr (.inr (.inl ⟨h5, e.1.symm, e.2.symm⟩))))
  rw [if_neg h5] at h
  by_cases h6 : p = 6
  · rw [if_pos h6] at h; have e := Prod.mk.inj (Option.some.inj h); exact .inr (.inr (.inr (.inr (.inr (.inl ⟨h6, e.1.symm, e.2.symm⟩)))))
  rw [if_neg h6] at h
  by_cases h7 : p = 7
  · rw [if_pos h7] at h; have e := Prod.mk.inj (Option.some.inj h); exact .inr (.inr (.inr (.inr (.inr (.inr (.inl ⟨h7, e.1.symm, e.2.symm⟩))))))
  rw [if_neg h7] at h
  by_cases h8 : p = 8
  · rw [if_pos h8] at h; have e := Prod.mk.inj (Option.some.inj h); exact .inr (.inr (.inr (.inr (.inr (.inr (.inr (.inl ⟨h8, e.1.symm, e.2.symm⟩)))))))
  rw [if_neg h8] at h
  by_cases h9 : p = 9
  · rw [if_pos h9] at h; have e := Prod.mk.inj (Option.some.inj h); exact .inr (.inr (.inr (.inr (.inr (.inr (.inr (.inr (.inl ⟨h9, e.1.symm, e.2.symm⟩))))))))
  rw [if_neg h9] at h
  by_cases h10 : p = 10
  · rw [if_pos h10] at h; have e := Prod.mk.inj (Option.some.inj h); exact .inr (.inr (.inr (.inr (.inr (.inr (.inr (.inr (.inr (.inl ⟨h10, e.1.symm, e.2.symm⟩)))))))))
  rw [if_neg h10] at h
  by_cases h11 : p = 11
  · rw [if_pos h11] at h; have e := Prod.mk.inj (Option.some.inj h); exact .inr (.inr (.inr (.inr (.inr (.inr (.inr (.inr (.inr (.inr (.inl ⟨h11, e.1.symm, e.2.symm⟩))))))))))
  rw [if_neg h11] at h
  by_cases h12 : p = 12
  · rw [if_pos h12] at h; have e := Prod.mk.inj (Option.some.inj h); exact .inr (.inr (.inr (.inr (.inr (.inr (.inr (.inr (.inr (.inr (.inr (⟨h12, e.1.symm, e.2.symm⟩)))))))))))
  rw [if_neg h12] at h
  cases h
theorem sh_find {t1 t2 t3 t4 t5 t6 t7 t8 t9 t10 t11 t12 : Tok} {a1 a2 a3 a4 a5 a6 a7 a8 a9 a10 a11 a12 : Addr} (p : Int) (v : Value) (hf : (([⟨1, .int 1 t1, .ref a1⟩, ⟨2, .int 2 t2, .ref a2⟩, ⟨3, .int 3 t3, .ref a3⟩, ⟨4, .int 4 t4, .ref a4⟩, ⟨5, .int 5 t5, .ref a5⟩, ⟨6, .int 6 t6, .ref a6⟩, ⟨7, .int 7 t7, .ref a7⟩, ⟨8, .int 8 t8, .ref a8⟩, ⟨9, .int 9 t9, .ref a9⟩, ⟨10, .int 10 t10, .ref a10⟩, ⟨11, .int 11 t11, .ref a11⟩, ⟨12, .int 12 t12, .ref a12⟩] : List DictEntry).find? fun e => Value.isInt p e.key).map (·.val) = some v) : findBy Value.isInt #[⟨1, .int 1 t1, .ref a1⟩, ⟨2, .int 2 t2, .ref a2⟩, ⟨3, .int 3 t3, .ref a3⟩, ⟨4, .int 4 t4, .ref a4⟩, ⟨5, .int 5 t5, .ref a5⟩, ⟨6, .int 6 t6, .ref a6⟩, ⟨7, .int 7 t7, .ref a7⟩, ⟨8, .int 8 t8, .ref a8⟩, ⟨9, .int 9 t9, .ref a9⟩, ⟨10, .int 10 t10, .ref a10⟩, ⟨11, .int 11 t11, .ref a11⟩, ⟨12, .int 12 t12, .ref a12⟩] p = some v := by
  unfold findBy
  rw [List.find?_toArray]
  exact hf
theorem sh_mk {aS : Addr} {m : Nat} {t1 t2 t3 t4 t5 t6 t7 t8 t9 t10 t11 t12 : Tok} {a1 a2 a3 a4 a5 a6 a7 a8 a9 a10 a11 a12 : Addr} {d1 d2 d3 d4 d5 d6 d7 d8 d9 d10 d11 d12 : Option Addr} {n1 n2 n3 n4 n5 n6 n7 n8 n9 n10 n11 n12 : Nat} {sl1 sl2 sl3 sl4 sl5 sl6 sl7 sl8 sl9 sl10 sl11 sl12 : Array (Option Value)} {u1 v1 u2 v2 u3 v3 u4 v4 u5 v5 u6 v6 u7 v7 u8 v8 u9 v9 u10 v10 u11 v11 u12 v12 : Tok}
    (X : K.In h) (G : h.Ns mainGlobals mg) (g : PySem.W.nsIn K mainGlobals "SHAPES" = some (some (.ref aS))) (l : K.lookup aS = some ⟨.type "dict", none, .dict #[⟨1, .int 1 t1, .ref a1⟩, ⟨2, .int 2 t2, .ref a2⟩, ⟨3, .int 3 t3, .ref a3⟩, ⟨4, .int 4 t4, .ref a4⟩, ⟨5, .int 5 t5, .ref a5⟩, ⟨6, .int 6 t6, .ref a6⟩, ⟨7, .int 7 t7, .ref a7⟩, ⟨8, .int 8 t8, .ref a8⟩, ⟨9, .int 9 t9, .ref a9⟩, ⟨10, .int 10 t10, .ref a10⟩, ⟨11, .int 11 t11, .ref a11⟩, ⟨12, .int 12 t12, .ref a12⟩] m, #[]⟩)
    (l1 : K.lookup a1 = some ⟨.type "tuple", d1, .seq #[.int 3 u1, .int 0 v1] n1, sl1⟩)
    (l2 : K.lookup a2 = some ⟨.type "tuple", d2, .seq #[.int 1 u2, .int 0 v2] n2, sl2⟩)
    (l3 : K.lookup a3 = some ⟨.type "tuple", d3, .seq #[.int 1 u3, .int 0 v3] n3, sl3⟩)
    (l4 : K.lookup a4 = some ⟨.type "tuple", d4, .seq #[.int 0 u4, .int 1 v4] n4, sl4⟩)
    (l5 : K.lookup a5 = some ⟨.type "tuple", d5, .seq #[.int 4 u5, .int 0 v5] n5, sl5⟩)
    (l6 : K.lookup a6 = some ⟨.type "tuple", d6, .seq #[.int 0 u6, .int 1 v6] n6, sl6⟩)
    (l7 : K.lookup a7 = some ⟨.type "tuple", d7, .seq #[.int 0 u7, .int 1 v7] n7, sl7⟩)
    (l8 : K.lookup a8 = some ⟨.type "tuple", d8, .seq #[.int 1 u8, .int 1 v8] n8, sl8⟩)
    (l9 : K.lookup a9 = some ⟨.type "tuple", d9, .seq #[.int 2 u9, .int 0 v9] n9, sl9⟩)
    (l10 : K.lookup a10 = some ⟨.type "tuple", d10, .seq #[.int 0 u10, .int 2 v10] n10, sl10⟩)
    (l11 : K.lookup a11 = some ⟨.type "tuple", d11, .seq #[.int 1 u11, .int 1 v11] n11, sl11⟩)
    (l12 : K.lookup a12 = some ⟨.type "tuple", d12, .seq #[.int 2 u12, .int 2 v12] n12, sl12⟩)
    : ShTxt K mg aS := by
  refine ⟨PySem.W.mg_of X G g, fun p n k hs => ?_⟩
  rcases sh_cases hs with ⟨rfl, rfl, rfl⟩ | ⟨rfl, rfl, rfl⟩ | ⟨rfl, rfl, rfl⟩ | ⟨rfl, rfl, rfl⟩ | ⟨rfl, rfl, rfl⟩ | ⟨rfl, rfl, rfl⟩ | ⟨rfl, rfl, rfl⟩ | ⟨rfl, rfl, rfl⟩ | ⟨rfl, rfl, rfl⟩ | ⟨rfl, rfl, rfl⟩ | ⟨rfl, rfl, rfl⟩ | ⟨rfl, rfl, rfl⟩
  · exact ⟨a1, ⟨_, _, _, l, sh_keys, sh_find _ _ rfl, rfl⟩, tup_2 l1⟩
  · exact ⟨a2, ⟨_, _, _, l, sh_keys, sh_find _ _ rfl, rfl⟩, tup_2 l2⟩
  · exact ⟨a3, ⟨_, _, _, l, sh_keys, sh_find _ _ rfl, rfl⟩, tup_2 l3⟩
  · exact ⟨a4, ⟨_, _, _, l, sh_keys, sh_find _ _ rfl, rfl⟩, tup_2 l4⟩
  · exact ⟨a5, ⟨_, _, _, l, sh_keys, sh_find _ _ rfl, rfl⟩, tup_2 l5⟩
  · exact ⟨a6, ⟨_, _, _, l, sh_keys, sh_find _ _ rfl, rfl⟩, tup_2 l6⟩
  · exact ⟨a7, ⟨_, _, _, l, sh_keys, sh_find _ _ rfl, rfl⟩, tup_2 l7⟩
  · exact ⟨a8, ⟨_, _, _, l, sh_keys, sh_find _ _ rfl, rfl⟩, tup_2 l8⟩
  · exact ⟨a9, ⟨_, _, _, l, sh_keys, sh_find _ _ rfl, rfl⟩, tup_2 l9⟩
  · exact ⟨a10, ⟨_, _, _, l, sh_keys, sh_find _ _ rfl, rfl⟩, tup_2 l10⟩
  · exact ⟨a11, ⟨_, _, _, l, sh_keys, sh_find _ _ rfl, rfl⟩, tup_2 l11⟩
  · exact ⟨a12, ⟨_, _, _, l, sh_keys, sh_find _ _ rfl, rfl⟩, tup_2 l12⟩
/-- an error of the class at S is what is named so -/
theorem exm_self {S : Addr} (h1 : PySem.W.subIn K (.ref S) (.type "BaseException") = some true) (h2 : PySem.W.isClsIn K S = true) (h3 : PySem.W.typeIn K (.ref S) = some (.type "type")) (h4 : PySem.W.subIn K (.ref S) (.ref S) = some true) :
    PySem.W.exmOne K (.ref S) (.ref S) = some true := by
  have e1 : (PySem.W.subIn K (.ref S) (.type "BaseException") == some true) = true := by rw [h1] <;> rfl
  have e2 : ((PySem.W.clsIn K S).isSome && PySem.W.typeIn K (.ref S) == some (.type "type")) = true := by
    have h2' : (PySem.W.clsIn K S).isSome = true := h2
    rw [h2', h3] <;> rfl
  show (if (PySem.W.subIn K (.ref S) (.type "BaseException") == some true) = true then (if ((PySem.W.clsIn K S).isSome && PySem.W.typeIn K (.ref S) == some (.type "type")) = true then PySem.W.subIn K (.ref S) (.ref S) else none) else none) = some true
  rw [if_pos e1, if_pos e2]
  exact h4
theorem fau_mk {C fI : Addr} {nm q : Str} {N : Addr} {bs : List Value} {sn : List Str} {sub : List Value} {ab : Bool} {col : Option Bool} {dd : Option Addr} {m0 m1 m2 m3 m5 : Option Value} {od an : Option Addr} {sl : Array (Option Value)} {oc kV dc pm cd ct : Value}
    (X : K.In h) (G : h.Ns mainGlobals mg) (nE : mg "Exception" = none) (aC : PySem.W.nsIn K mainGlobals "Fault" = some (some (.ref C)))
    (xL : K.lookup C = some (excClassObj nm q C N bs PySem.ESX.exTail true sn sub ab col dd m0 m1 m2 m3 m5 "Exception.__new__"))
    (eI : PySem.W.findCls K (.type "Exception") (.type "type") "__init__" = some (.val (.builtin "Exception.__init__")))
    (sa : PySem.W.findIn K (.ref C) "__setattr__" = some (some (.builtin "object.__setattr__"))) (ga : PySem.W.findIn K (.ref C) "__getattribute__" = some (some (.builtin "BaseException.__getattribute__"))) (gg : PySem.W.findIn K (.ref C) "__getattr__" = some none)
    (noK : PySem.W.findIn K (.ref C) "kind" = some none) (noP : PySem.W.findIn K (.ref C) "place" = some none) (iC : PySem.W.findIn K (.ref C) "__init__" = some (some (.ref fI))) (tC : PySem.W.typeIn K (.ref fI) = some (.type "function"))
    (kC : PySem.W.keepIn K (.ref C) = true) (exC : PySem.W.subIn K (.ref C) (.type "BaseException") = some true) (tyC : PySem.W.typeIn K (.ref C) = some (.type "type")) (hdC : PySem.W.hasDictIn K C = true) (isC : PySem.W.isClsIn K C = true) (sC : PySem.W.subIn K (.ref C) (.ref C) = some true)
    (l : K.lookup fI = some ⟨oc, od, .func (PySem.W.fnOf "__init__" "Fault.__init__" (defArgs sFI) (defBody sFI) (defScope sFI) .none kV dc pm an cd ct), sl⟩) (c : PySem.W.codeIn K cd "Fault.__init__" = true) : FauTxt K mg C fI :=
  { gC := PySem.W.mg_of X G aC, noE := nE, cls := ⟨nm, q, N, bs, sn, sub, ab, col, dd, m0, m1, m2, m3, m5, xL⟩, eI := eI, sa := sa, ga := ga, gg := gg, noK := noK, noP := noP, iC := iC, tC := tC, kC := kC, exC := exC, tyC := tyC, hdC := hdC, te := exm_self exC isC tyC sC,
    fn := ⟨_, _, _, _, _, _, _, _, _, l, c⟩ }
theorem free_mk (X : K.In h) (G : h.Ns mainGlobals mg) (n_len : PySem.W.nsIn K mainGlobals "len" = some none) (n_sum : PySem.W.nsIn K mainGlobals "sum" = some none) (n_all : PySem.W.nsIn K mainGlobals "all" = some none) (n_range : PySem.W.nsIn K mainGlobals "range" = some none) (n_zip : PySem.W.nsIn K mainGlobals "zip" = some none) (n_str : PySem.W.nsIn K mainGlobals "str" = some none) (n_ord : PySem.W.nsIn K mainGlobals "ord" = some none) (n_Exception : PySem.W.nsIn K mainGlobals "Exception" = some none) : Free mg :=
  ⟨PySem.W.mg_none_of X G n_len, PySem.W.mg_none_of X G n_sum, PySem.W.mg_none_of X G n_all, PySem.W.mg_none_of X G n_range, PySem.W.mg_none_of X G n_zip, PySem.W.mg_none_of X G n_str, PySem.W.mg_none_of X G n_ord, PySem.W.mg_none_of X G n_Exception⟩
theorem txt_mk {aL aT aH : Addr} {dL dH : Option Addr} {nL nT nH : Nat} {xL xT xH : Array (Option Value)} {t0 t1 t2 t3 t4 t5 t6 t7 t8 t9 t10 t11 u0 u1 u2 u3 v0 v1 : Tok} (X : K.In h) (G : h.Ns mainGlobals mg)
    (c_FIRST_YEAR : Con1 mg "FIRST_YEAR" 1900)
    (c_LAST_YEAR : Con1 mg "LAST_YEAR" 2099)
    (c_LAST_DAY : Con1 mg "LAST_DAY" 73049)
    (c_MONTHS : Con1 mg "MONTHS" 12)
    (c_WEEK : Con1 mg "WEEK" 7)
    (c_PARTS : Con1 mg "PARTS" 5)
    (c_MOST : Con1 mg "MOST" 9999)
    (c_WRONG : Con1 mg "WRONG" (-1))
    (c_NOTHING_SUCH : Con1 mg "NOTHING_SUCH" (-2))
    (c_FAULTY : Con1 mg "FAULTY" (-6))
    (c_TOO_SOON : Con1 mg "TOO_SOON" 1)
    (c_WRONG_BYTE : Con1 mg "WRONG_BYTE" 2)
    (c_NO_SUCH_DATE : Con1 mg "NO_SUCH_DATE" 3)
    (c_BAD_NUMBER : Con1 mg "BAD_NUMBER" 3)
    (c_WRONG_ORDER : Con1 mg "WRONG_ORDER" 4)
    (c_PLUS : Con1 mg "PLUS" 43)
    (c_HYPHEN : Con1 mg "HYPHEN" 45)
    (c_ZERO : Con1 mg "ZERO" 48)
    (c_NINE : Con1 mg "NINE" 57)
    (c_DAYS : Con1 mg "DAYS" 3)
    (c_LESS : Con1 mg "LESS" 4)
    (c_LETTER_OF_DAYS : Con1 mg "LETTER_OF_DAYS" 100)
    (c_MOST_DIGITS : Con1 mg "MOST_DIGITS" 4)
    (c_MOST_IN_ROW : Con1 mg "MOST_IN_ROW" 64)
    (c_MOST_BIRTHS : Con1 mg "MOST_BIRTHS" 2000)
    (c_TEXT_LENGTH : Con1 mg "TEXT_LENGTH" 10)
    (fr : Free mg)
    (gL : PySem.W.nsIn K mainGlobals "LENGTHS" = some (some (.ref aL))) (lL : K.lookup aL = some ⟨.type "tuple", dL, .seq #[.int 31 t0, .int 28 t1, .int 31 t2, .int 30 t3, .int 31 t4, .int 30 t5, .int 31 t6, .int 31 t7, .int 30 t8, .int 31 t9, .int 30 t10, .int 31 t11] nL, xL⟩)
    (gT : PySem.W.nsIn K mainGlobals "LETTERS" = some (some (.ref aT))) (lT : K.lookup aT = some ⟨.type "tuple", none, .seq #[.int 121 u0, .int 109 u1, .int 119 u2, .int 100 u3] nT, xT⟩)
    (gH : PySem.W.nsIn K mainGlobals "HYPHENS" = some (some (.ref aH))) (lH : K.lookup aH = some ⟨.type "tuple", dH, .seq #[.int 4 v0, .int 7 v1] nH, xH⟩)
    : Txt K mg aL aT aH :=
  { c_FIRST_YEAR := c_FIRST_YEAR, c_LAST_YEAR := c_LAST_YEAR, c_LAST_DAY := c_LAST_DAY, c_MONTHS := c_MONTHS, c_WEEK := c_WEEK, c_PARTS := c_PARTS, c_MOST := c_MOST, c_WRONG := c_WRONG, c_NOTHING_SUCH := c_NOTHING_SUCH, c_FAULTY := c_FAULTY, c_TOO_SOON := c_TOO_SOON, c_WRONG_BYTE := c_WRONG_BYTE, c_NO_SUCH_DATE := c_NO_SUCH_DATE, c_BAD_NUMBER := c_BAD_NUMBER, c_WRONG_ORDER := c_WRONG_ORDER, c_PLUS := c_PLUS, c_HYPHEN := c_HYPHEN, c_ZERO := c_ZERO, c_NINE := c_NINE, c_DAYS := c_DAYS, c_LESS := c_LESS, c_LETTER_OF_DAYS := c_LETTER_OF_DAYS, c_MOST_DIGITS := c_MOST_DIGITS, c_MOST_IN_ROW := c_MOST_IN_ROW, c_MOST_BIRTHS := c_MOST_BIRTHS, c_TEXT_LENGTH := c_TEXT_LENGTH, fr := fr, gL := PySem.W.mg_of X G gL, sL := tup_L lL, gT := PySem.W.mg_of X G gT, sT := tup_T lT, kT := ⟨_, lT, rfl, rfl⟩, gH := PySem.W.mg_of X G gH, sH := tup_H lH }
end
theorem all_mk {P : Program} {w : World} {K : PySem.W.Frag} {h : Heap} {mg : Str → Option Value} {fa aL aT aH aS C fI f : Addr} {oc kV dc pm cd ct : Value} {od an : Option Addr} {sl : Array (Option Value)} (X : K.In h) (G : h.Ns mainGlobals mg) (hfa : mg "answers" = some (.ref fa))
    (T : Txt K mg aL aT aH) (TS : ShTxt K mg aS) (TF : FauTxt K mg C fI)
    (D_is_day : Dfn K mg "is_day" s_is_day)
    (D_is_leap : Dfn K mg "is_leap" s_is_leap)
    (D_month_length : Dfn K mg "month_length" s_month_length)
    (D_is_month : Dfn K mg "is_month" s_is_month)
    (D_is_date : Dfn K mg "is_date" s_is_date)
    (D_leap_years_to : Dfn K mg "leap_years_to" s_leap_years_to)
    (D_days_before_year : Dfn K mg "days_before_year" s_days_before_year)
    (D_days_before_month : Dfn K mg "days_before_month" s_days_before_month)
    (D_day_of : Dfn K mg "day_of" s_day_of)
    (D_year_of : Dfn K mg "year_of" s_year_of)
    (D_date_of : Dfn K mg "date_of" s_date_of)
    (D_month_on : Dfn K mg "month_on" s_month_on)
    (D_weekday_of : Dfn K mg "weekday_of" s_weekday_of)
    (D_first_weekday : Dfn K mg "first_weekday" s_first_weekday)
    (D_last_weekday : Dfn K mg "last_weekday" s_last_weekday)
    (D_is_digit : Dfn K mg "is_digit" s_is_digit)
    (D_number_of : Dfn K mg "number_of" s_number_of)
    (D_digits_of : Dfn K mg "digits_of" s_digits_of)
    (D_byte_at : Dfn K mg "byte_at" s_byte_at)
    (D_digits_end : Dfn K mg "digits_end" s_digits_end)
    (D_number_end : Dfn K mg "number_end" s_number_end)
    (D_unit_at : Dfn K mg "unit_at" s_unit_at)
    (D_read_nothing : Dfn K mg "read_nothing" s_read_nothing)
    (D_read_units : Dfn K mg "read_units" s_read_units)
    (D_read_less : Dfn K mg "read_less" s_read_less)
    (D_read_age : Dfn K mg "read_age" s_read_age)
    (D_is_age : Dfn K mg "is_age" s_is_age)
    (D_whole_months : Dfn K mg "whole_months" s_whole_months)
    (D_days_more : Dfn K mg "days_more" s_days_more)
    (D_months_on : Dfn K mg "months_on" s_months_on)
    (D_reckoned : Dfn K mg "reckoned" s_reckoned)
    (D_day_reached : Dfn K mg "day_reached" s_day_reached)
    (D_months_old : Dfn K mg "months_old" s_months_old)
    (D_births : Dfn K mg "births" s_births)
    (D_race : Dfn K mg "race" s_race)
    (D_write_age : Dfn K mg "write_age" s_write_age)
    (D_write_date : Dfn K mg "write_date" s_write_date)
    (D_may_stand : Dfn K mg "may_stand" s_may_stand)
    (D_check_bytes : Dfn K mg "check_bytes" s_check_bytes)
    (D_read_date : Dfn K mg "read_date" s_read_date)
    (D_tell_day : Dfn K mg "tell_day" s_tell_day)
    (D_tell_date : Dfn K mg "tell_date" s_tell_date)
    (D_show : Dfn K mg "show" s_show)
    (D_read : Dfn K mg "read" s_read)
    (D_nth : Dfn K mg "nth" s_nth)
    (D_tell_age : Dfn K mg "tell_age" s_tell_age)
    (D_write : Dfn K mg "write" s_write)
    (D_on : Dfn K mg "on" s_on)
    (D_old : Dfn K mg "old" s_old)
    (D_row : Dfn K mg "row" s_row)
    (D_born : Dfn K mg "born" s_born)
    (D_are_births : Dfn K mg "are_births" s_are_births)
    (D_sooner : Dfn K mg "sooner" s_sooner)
    (D_cut_calls : Dfn K mg "cut_calls" s_cut_calls)
    (D_date_answer : Dfn K mg "date_answer" s_date_answer)
    (D_age_answer : Dfn K mg "age_answer" s_age_answer)
    (g : PySem.W.nsIn K mainGlobals "answers" = some (some (.ref f))) (l : K.lookup f = some ⟨oc, od, .func (PySem.W.fnOf "answers" "answers" (defArgs s_answers) (defBody s_answers) (defScope s_answers) .none kV dc pm an cd ct), sl⟩) (c : PySem.W.codeIn K cd "answers" = true) (k : PySem.W.keepIn K (.ref f) = true) :
    ∃ fd : FuncData, (∀ (s : Shared) (us : List Value), us.length = (["calls"] : List Str).length → BindsTo s fd ⟨us, []⟩ ((["calls"] : List Str).zip us)) ∧ ∀ base : Heap, K.In base → base.Ns mainGlobals mg → FnOk P w K mg base CX0 11 fa fd ["calls"] (sp_answers K) := by
  have e := hfa.symm.trans (PySem.W.mg_of X G g)
  cases e
  have F := fun_mk (st := s_answers) l c k
  refine ⟨PySem.W.fnOf "answers" "answers" (defArgs s_answers) (defBody s_answers) (defScope s_answers) .none kV dc pm an cd ct, fun s us hu => match us, hu with | [_], _ => .of_eq rfl, fun base _ _ => ?_⟩
  have C_is_day := ok_is_day (P := P) (w := w) (base := base) T D_is_day
  have C_is_leap := ok_is_leap (P := P) (w := w) (base := base) T D_is_leap
  have C_month_length := ok_month_length (P := P) (w := w) (base := base) T D_month_length C_is_leap
  have C_is_month := ok_is_month (P := P) (w := w) (base := base) T D_is_month
  have C_is_date := ok_is_date (P := P) (w := w) (base := base) T D_is_date C_is_month C_month_length
  have C_leap_years_to := ok_leap_years_to (P := P) (w := w) (base := base) T D_leap_years_to
  have C_days_before_year := ok_days_before_year (P := P) (w := w) (base := base) T D_days_before_year C_leap_years_to
  have C_days_before_month := ok_days_before_month (P := P) (w := w) (base := base) T D_days_before_month C_days_before_year C_month_length
  have C_day_of := ok_day_of (P := P) (w := w) (base := base) T D_day_of C_days_before_month
  have C_year_of := ok_year_of (P := P) (w := w) (base := base) T D_year_of C_days_before_year
  have C_date_of := ok_date_of (P := P) (w := w) (base := base) T D_date_of C_year_of C_days_before_year C_month_length
  have C_month_on := ok_month_on (P := P) (w := w) (base := base) T D_month_on
  have C_weekday_of := ok_weekday_of (P := P) (w := w) (base := base) T D_weekday_of
  have C_first_weekday := ok_first_weekday (P := P) (w := w) (base := base) T D_first_weekday C_day_of C_weekday_of
  have C_last_weekday := ok_last_weekday (P := P) (w := w) (base := base) T D_last_weekday C_day_of C_weekday_of C_month_length
  have C_is_digit := ok_is_digit (P := P) (w := w) (base := base) T D_is_digit
  have C_number_of := ok_number_of (P := P) (w := w) (base := base) T D_number_of
  have C_digits_of := ok_digits_of (P := P) (w := w) (base := base) T D_digits_of
  have C_byte_at := ok_byte_at (P := P) (w := w) (base := base) T TF D_byte_at
  have C_digits_end := ok_digits_end (P := P) (w := w) (base := base) T D_digits_end C_is_digit
  have C_number_end := ok_number_end (P := P) (w := w) (base := base) T TF D_number_end C_byte_at C_is_digit C_digits_end
  have C_unit_at := ok_unit_at (P := P) (w := w) (base := base) T TF D_unit_at C_byte_at
  have C_read_nothing := ok_read_nothing (P := P) (w := w) (base := base) T TF D_read_nothing C_byte_at
  have C_read_units := ok_read_units (P := P) (w := w) (base := base) T TF D_read_units C_number_end C_unit_at C_number_of
  have C_read_less := ok_read_less (P := P) (w := w) (base := base) T TF D_read_less C_byte_at C_number_end C_number_of
  have C_read_age := ok_read_age (P := P) (w := w) (base := base) T TF D_read_age C_byte_at C_read_nothing C_read_units C_read_less
  have C_is_age := ok_is_age (P := P) (w := w) (base := base) T D_is_age
  have C_whole_months := ok_whole_months (P := P) (w := w) (base := base) T D_whole_months
  have C_days_more := ok_days_more (P := P) (w := w) (base := base) T D_days_more
  have C_months_on := ok_months_on (P := P) (w := w) (base := base) T D_months_on C_date_of C_month_on C_month_length C_days_before_month
  have C_reckoned := ok_reckoned (P := P) (w := w) (base := base) T D_reckoned C_months_on C_whole_months C_days_more
  have C_day_reached := ok_day_reached (P := P) (w := w) (base := base) T D_day_reached C_reckoned C_is_day
  have C_months_old := ok_months_old (P := P) (w := w) (base := base) T D_months_old C_date_of C_months_on
  have C_births := ok_births (P := P) (w := w) (base := base) T D_births C_days_more C_date_of C_whole_months C_month_on C_month_length C_day_of C_is_day C_reckoned
  have C_race := ok_race (P := P) (w := w) (base := base) T D_race C_day_reached
  have C_write_age := ok_write_age (P := P) (w := w) (base := base) T D_write_age C_digits_of
  have C_write_date := ok_write_date (P := P) (w := w) (base := base) T D_write_date C_date_of
  have C_may_stand := ok_may_stand (P := P) (w := w) (base := base) T D_may_stand C_is_digit
  have C_check_bytes := ok_check_bytes (P := P) (w := w) (base := base) T TF D_check_bytes C_may_stand
  have C_read_date := ok_read_date (P := P) (w := w) (base := base) T TF D_read_date C_check_bytes C_number_of C_is_date C_day_of
  have C_tell_day := ok_tell_day (P := P) (w := w) (base := base) T D_tell_day C_is_date C_day_of
  have C_tell_date := ok_tell_date (P := P) (w := w) (base := base) T D_tell_date C_is_day C_date_of C_weekday_of
  have C_show := ok_show (P := P) (w := w) (base := base) T D_show C_is_day C_write_date
  have C_read := ok_read (P := P) (w := w) (base := base) T TF D_read C_read_date
  have C_nth := ok_nth (P := P) (w := w) (base := base) T D_nth C_is_month C_last_weekday C_first_weekday C_day_of C_month_length
  have C_tell_age := ok_tell_age (P := P) (w := w) (base := base) T TF D_tell_age C_read_age
  have C_write := ok_write (P := P) (w := w) (base := base) T D_write C_is_age C_write_age
  have C_on := ok_on (P := P) (w := w) (base := base) T D_on C_is_day C_is_age C_day_reached
  have C_old := ok_old (P := P) (w := w) (base := base) T D_old C_is_day C_months_old C_months_on
  have C_row := ok_row (P := P) (w := w) (base := base) T D_row C_is_day C_is_age C_day_reached
  have C_born := ok_born (P := P) (w := w) (base := base) T D_born C_is_day C_is_age C_births
  have C_are_births := ok_are_births (P := P) (w := w) (base := base) T D_are_births C_is_day
  have C_sooner := ok_sooner (P := P) (w := w) (base := base) T D_sooner C_are_births C_is_age C_race
  have C_cut_calls := ok_cut_calls (P := P) (w := w) (base := base) T TS D_cut_calls
  have C_date_answer := ok_date_answer (P := P) (w := w) (base := base) T D_date_answer C_tell_day C_tell_date C_show C_read C_nth
  have C_age_answer := ok_age_answer (P := P) (w := w) (base := base) T D_age_answer C_tell_age C_write C_on C_old C_row C_born C_sooner
  exact ok_answers T F C_cut_calls C_date_answer C_age_answer
end Ag

open PySem PySem.W PyProof.Rows
set_option maxRecDepth 100000 in
set_option maxHeartbeats 20000000 in
theorem PySem.Challenge.cw_agedays_s01_answers_holds : PySem.Challenge.rw_agedays_s01_answers.Holds := by
  w_on; k_headS; (case hw => exact ⟨[.list [.int 2, .int 5]], by decide +kernel, by decide +kernel⟩)
  k_fillS
  refine L2.walk_specK (r := PySem.Challenge.rw_agedays_s01_answers) (k := 11) (CX := L2.CX0) (ps := ["calls"]) (sp := Ag.sp_answers) (by decide +kernel) rfl rfl ⟨rfl, by decide, by decide⟩ (fun w h Y => PySem.W.kIn_of Y) ?F ?S (fun _ _ _ _ z => z)
  case F =>
    intro w mg fa h Y KX G hmg
    have fr : Ag.Free mg := by
      refine' Ag.free_mk KX G ?n0 ?n1 ?n2 ?n3 ?n4 ?n5 ?n6 ?n7
      (case n0 => k_is); (case n1 => k_is); (case n2 => k_is); (case n3 => k_is); (case n4 => k_is); (case n5 => k_is); (case n6 => k_is); (case n7 => k_is)
    refine' Ag.all_mk KX G hmg ?T ?TS ?TF ?D0 ?D1 ?D2 ?D3 ?D4 ?D5 ?D6 ?D7 ?D8 ?D9 ?D10 ?D11 ?D12 ?D13 ?D14 ?D15 ?D16 ?D17 ?D18 ?D19 ?D20 ?D21 ?D22 ?D23 ?D24 ?D25 ?D26 ?D27 ?D28 ?D29 ?D30 ?D31 ?D32 ?D33 ?D34 ?D35 ?D36 ?D37 ?D38 ?D39 ?D40 ?D41 ?D42 ?D43 ?D44 ?D45 ?D46 ?D47 ?D48 ?D49 ?D50 ?D51 ?D52 ?D53 ?D54 ?D55 ?zg ?zl ?zc ?zk
    case T =>
      refine' Ag.txt_mk KX G ?c0 ?c1 ?c2 ?c3 ?c4 ?c5 ?c6 ?c7 ?c8 ?c9 ?c10 ?c11 ?c12 ?c13 ?c14 ?c15 ?c16 ?c17 ?c18 ?c19 ?c20 ?c21 ?c22 ?c23 ?c24 ?c25 fr ?gL ?lL ?gT ?lT ?gH ?lH
      case c0 => refine' Ag.con_mk KX G ?a; (case a => k_is)
      case c1 => refine' Ag.con_mk KX G ?a; (case a => k_is)
      case c2 => refine' Ag.con_mk KX G ?a; (case a => k_is)
      case c3 => refine' Ag.con_mk KX G ?a; (case a => k_is)
      case c4 => refine' Ag.con_mk KX G ?a; (case a => k_is)
      case c5 => refine' Ag.con_mk KX G ?a; (case a => k_is)
      case c6 => refine' Ag.con_mk KX G ?a; (case a => k_is)
      case c7 => refine' Ag.con_mk KX G ?a; (case a => k_is)
      case c8 => refine' Ag.con_mk KX G ?a; (case a => k_is)
      case c9 => refine' Ag.con_mk KX G ?a; (case a => k_is)
      case c10 => refine' Ag.con_mk KX G ?a; (case a => k_is)
      case c11 => refine' Ag.con_mk KX G ?a; (case a => k_is)
      case c12 => refine' Ag.con_mk KX G ?a; (case a => k_is)
      case c13 => refine' Ag.con_mk KX G ?a; (case a => k_is)
      case c14 => refine' Ag.con_mk KX G ?a; (case a => k_is)
      case c15 => refine' Ag.con_mk KX G ?a; (case a => k_is)
      case c16 => refine' Ag.con_mk KX G ?a; (case a => k_is)
      case c17 => refine' Ag.con_mk KX G ?a; (case a => k_is)
      case c18 => refine' Ag.con_mk KX G ?a; (case a => k_is)
      case c19 => refine' Ag.con_mk KX G ?a; (case a => k_is)
      case c20 => refine' Ag.con_mk KX G ?a; (case a => k_is)
      case c21 => refine' Ag.con_mk KX G ?a; (case a => k_is)
      case c22 => refine' Ag.con_mk KX G ?a; (case a => k_is)
      case c23 => refine' Ag.con_mk KX G ?a; (case a => k_is)
      case c24 => refine' Ag.con_mk KX G ?a; (case a => k_is)
      case c25 => refine' Ag.con_mk KX G ?a; (case a => k_is)
      (case gL => k_is); (case lL => k_is); (case gT => k_is); (case lT => k_is); (case gH => k_is); (case lH => k_is)
    case TS =>
      refine' Ag.sh_mk KX G ?g ?l ?l1 ?l2 ?l3 ?l4 ?l5 ?l6 ?l7 ?l8 ?l9 ?l10 ?l11 ?l12
      (case g => k_is); (case l => k_is); (case l1 => k_is); (case l2 => k_is); (case l3 => k_is); (case l4 => k_is); (case l5 => k_is); (case l6 => k_is); (case l7 => k_is); (case l8 => k_is); (case l9 => k_is); (case l10 => k_is); (case l11 => k_is); (case l12 => k_is)
    case TF =>
      refine' Ag.fau_mk KX G fr.n_Exception ?aC ?xL ?eI ?sa ?ga ?gg ?noK ?noP ?iC ?tC ?kC ?exC ?tyC ?hdC ?isC ?sC ?l ?c
      (case aC => k_is); (case xL => k_is); (case eI => k_is); (case sa => k_is); (case ga => k_is); (case gg => k_is); (case noK => k_is); (case noP => k_is); (case iC => k_is); (case tC => k_is); (case kC => k_is); (case exC => k_is); (case tyC => k_is); (case hdC => k_is); (case isC => k_is)
      (case sC => first | rfl | k_is); (case l => k_is); (case c => k_is)
    case D0 =>
      refine' Ag.dfn_mk KX G ?a ?l ?c ?k
      (case a => k_is); (case l => k_is); (case c => k_is); (case k => k_is)
    case D1 =>
      refine' Ag.dfn_mk KX G ?a ?l ?c ?k
      (case a => k_is); (case l => k_is); (case c => k_is); (case k => k_is)
    case D2 =>
      refine' Ag.dfn_mk KX G ?a ?l ?c ?k
      (case a => k_is); (case l => k_is); (case c => k_is); (case k => k_is)
    case D3 =>
      refine' Ag.dfn_mk KX G ?a ?l ?c ?k
      (case a => k_is); (case l => k_is); (case c => k_is); (case k => k_is)
    case D4 =>
      refine' Ag.dfn_mk KX G ?a ?l ?c ?k
      (case a => k_is); (case l => k_is); (case c => k_is); (case k => k_is)
    case D5 =>
      refine' Ag.dfn_mk KX G ?a ?l ?c ?k
      (case a => k_is); (case l => k_is); (case c => k_is); (case k => k_is)
    case D6 =>
      refine' Ag.dfn_mk KX G ?a ?l ?c ?k
      (case a => k_is); (case l => k_is); (case c => k_is); (case k => k_is)
    case D7 =>
      refine' Ag.dfn_mk KX G ?a ?l ?c ?k
      (case a => k_is); (case l => k_is); (case c => k_is); (case k => k_is)
    case D8 =>
      refine' Ag.dfn_mk KX G ?a ?l ?c ?k
      (case a => k_is); (case l => k_is); (case c => k_is); (case k => k_is)
    case D9 =>
      refine' Ag.dfn_mk KX G ?a ?l ?c ?k
      (case a => k_is); (case l => k_is); (case c => k_is); (case k => k_is)
    case D10 =>
      refine' Ag.dfn_mk KX G ?a ?l ?c ?k
      (case a => k_is); (case l => k_is); (case c => k_is); (case k => k_is)
    case D11 =>
      refine' Ag.dfn_mk KX G ?a ?l ?c ?k
      (case a => k_is); (case l => k_is); (case c => k_is); (case k => k_is)
    case D12 =>
      refine' Ag.dfn_mk KX G ?a ?l ?c ?k
      (case a => k_is); (case l => k_is); (case c => k_is); (case k => k_is)
    case D13 =>
      refine' Ag.dfn_mk KX G ?a ?l ?c ?k
      (case a => k_is); (case l => k_is); (case c => k_is); (case k => k_is)
    case D14 =>
      refine' Ag.dfn_mk KX G ?a ?l ?c ?k
      (case a => k_is); (case l => k_is); (case c => k_is); (case k => k_is)
    case D15 =>
      refine' Ag.dfn_mk KX G ?a ?l ?c ?k
      (case a => k_is); (case l => k_is); (case c => k_is); (case k => k_is)
    case D16 =>
      refine' Ag.dfn_mk KX G ?a ?l ?c ?k
      (case a => k_is); (case l => k_is); (case c => k_is); (case k => k_is)
    case D17 =>
      refine' Ag.dfn_mk KX G ?a ?l ?c ?k
      (case a => k_is); (case l => k_is); (case c => k_is); (case k => k_is)
    case D18 =>
      refine' Ag.dfn_mk KX G ?a ?l ?c ?k
      (case a => k_is); (case l => k_is); (case c => k_is); (case k => k_is)
    case D19 =>
      refine' Ag.dfn_mk KX G ?a ?l ?c ?k
      (case a => k_is); (case l => k_is); (case c => k_is); (case k => k_is)
    case D20 =>
      refine' Ag.dfn_mk KX G ?a ?l ?c ?k
      (case a => k_is); (case l => k_is); (case c => k_is); (case k => k_is)
    case D21 =>
      refine' Ag.dfn_mk KX G ?a ?l ?c ?k
      (case a => k_is); (case l => k_is); (case c => k_is); (case k => k_is)
    case D22 =>
      refine' Ag.dfn_mk KX G ?a ?l ?c ?k
      (case a => k_is); (case l => k_is); (case c => k_is); (case k => k_is)
    case D23 =>
      refine' Ag.dfn_mk KX G ?a ?l ?c ?k
      (case a => k_is); (case l => k_is); (case c => k_is); (case k => k_is)
    case D24 =>
      refine' Ag.dfn_mk KX G ?a ?l ?c ?k
      (case a => k_is); (case l => k_is); (case c => k_is); (case k => k_is)
    case D25 =>
      refine' Ag.dfn_mk KX G ?a ?l ?c ?k
      (case a => k_is); (case l => k_is); (case c => k_is); (case k => k_is)
    case D26 =>
      refine' Ag.dfn_mk KX G ?a ?l ?c ?k
      (case a => k_is); (case l => k_is); (case c => k_is); (case k => k_is)
    case D27 =>
      refine' Ag.dfn_mk KX G ?a ?l ?c ?k
      (case a => k_is); (case l => k_is); (case c => k_is); (case k => k_is)
    case D28 =>
      refine' Ag.dfn_mk KX G ?a ?l ?c ?k
      (case a => k_is); (case l => k_is); (case c => k_is); (case k => k_is)
    case D29 =>
      refine' Ag.dfn_mk KX G ?a ?l ?c ?k
      (case a => k_is); (case l => k_is); (case c => k_is); (case k => k_is)
    case D30 =>
      refine' Ag.dfn_mk KX G ?a ?l ?c ?k
      (case a => k_is); (case l => k_is); (case c => k_is); (case k => k_is)
    case D31 =>
      refine' Ag.dfn_mk KX G ?a ?l ?c ?k
      (case a => k_is); (case l => k_is); (case c => k_is); (case k => k_is)
    case D32 =>
      refine' Ag.dfn_mk KX G ?a ?l ?c ?k
      (case a => k_is); (case l => k_is); (case c => k_is); (case k => k_is)
    case D33 =>
      refine' Ag.dfn_mk KX G ?a ?l ?c ?k
      (case a => k_is); (case l => k_is); (case c => k_is); (case k => k_is)
    case D34 =>
      refine' Ag.dfn_mk KX G ?a ?l ?c ?k
      (case a => k_is); (case l => k_is); (case c => k_is); (case k => k_is)
    case D35 =>
      refine' Ag.dfn_mk KX G ?a ?l ?c ?k
      (case a => k_is); (case l => k_is); (case c => k_is); (case k => k_is)
    case D36 =>
      refine' Ag.dfn_mk KX G ?a ?l ?c ?k
      (case a => k_is); (case l => k_is); (case c => k_is); (case k => k_is)
    case D37 =>
      refine' Ag.dfn_mk KX G ?a ?l ?c ?k
      (case a => k_is); (case l => k_is); (case c => k_is); (case k => k_is)
    case D38 =>
      refine' Ag.dfn_mk KX G ?a ?l ?c ?k
      (case a => k_is); (case l => k_is); (case c => k_is); (case k => k_is)
    case D39 =>
      refine' Ag.dfn_mk KX G ?a ?l ?c ?k
      (case a => k_is); (case l => k_is); (case c => k_is); (case k => k_is)
    case D40 =>
      refine' Ag.dfn_mk KX G ?a ?l ?c ?k
      (case a => k_is); (case l => k_is); (case c => k_is); (case k => k_is)
    case D41 =>
      refine' Ag.dfn_mk KX G ?a ?l ?c ?k
      (case a => k_is); (case l => k_is); (case c => k_is); (case k => k_is)
    case D42 =>
      refine' Ag.dfn_mk KX G ?a ?l ?c ?k
      (case a => k_is); (case l => k_is); (case c => k_is); (case k => k_is)
    case D43 =>
      refine' Ag.dfn_mk KX G ?a ?l ?c ?k
      (case a => k_is); (case l => k_is); (case c => k_is); (case k => k_is)
    case D44 =>
      refine' Ag.dfn_mk KX G ?a ?l ?c ?k
      (case a => k_is); (case l => k_is); (case c => k_is); (case k => k_is)
    case D45 =>
      refine' Ag.dfn_mk KX G ?a ?l ?c ?k
      (case a => k_is); (case l => k_is); (case c => k_is); (case k => k_is)
    case D46 =>
      refine' Ag.dfn_mk KX G ?a ?l ?c ?k
      (case a => k_is); (case l => k_is); (case c => k_is); (case k => k_is)
    case D47 =>
      refine' Ag.dfn_mk KX G ?a ?l ?c ?k
      (case a => k_is); (case l => k_is); (case c => k_is); (case k => k_is)
    case D48 =>
      refine' Ag.dfn_mk KX G ?a ?l ?c ?k
      (case a => k_is); (case l => k_is); (case c => k_is); (case k => k_is)
    case D49 =>
      refine' Ag.dfn_mk KX G ?a ?l ?c ?k
      (case a => k_is); (case l => k_is); (case c => k_is); (case k => k_is)
    case D50 =>
      refine' Ag.dfn_mk KX G ?a ?l ?c ?k
      (case a => k_is); (case l => k_is); (case c => k_is); (case k => k_is)
    case D51 =>
      refine' Ag.dfn_mk KX G ?a ?l ?c ?k
      (case a => k_is); (case l => k_is); (case c => k_is); (case k => k_is)
    case D52 =>
      refine' Ag.dfn_mk KX G ?a ?l ?c ?k
      (case a => k_is); (case l => k_is); (case c => k_is); (case k => k_is)
    case D53 =>
      refine' Ag.dfn_mk KX G ?a ?l ?c ?k
      (case a => k_is); (case l => k_is); (case c => k_is); (case k => k_is)
    case D54 =>
      refine' Ag.dfn_mk KX G ?a ?l ?c ?k
      (case a => k_is); (case l => k_is); (case c => k_is); (case k => k_is)
    case D55 =>
      refine' Ag.dfn_mk KX G ?a ?l ?c ?k
      (case a => k_is); (case l => k_is); (case c => k_is); (case k => k_is)
    (case zg => k_is); (case zl => k_is); (case zc => k_is); (case zk => k_is)
  case S =>
    intro K H xs a hO hwi hask hx
    cases hx with
    | cons h1 h2 =>
      cases h2
      cases h1 with
      | lst hs ha =>
        have e := L2.ints_dw a.1 _ ha
        subst e
        exact ⟨_, rfl, a.1, hs, hask, fun H' p _ _ hp => .lst (L2.SqL.of hp) (L2.dw_ints _)⟩
