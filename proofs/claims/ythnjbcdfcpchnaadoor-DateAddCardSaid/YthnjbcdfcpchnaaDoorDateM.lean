/- Plain calendar arithmetic: leap years, days before a month, numbers of dates; no program in sight. -/
import Derived.KernelRfl
namespace Go.Proofs.YthnjbcdfcpchnaaDoor.Cal

/-- A leap year, as the code tests it. -/
def leapB (y : Int) : Bool := (y % 4 == 0) && ((y % 100 != 0) || (y % 400 == 0))
def lp (y : Int) : Int := if leapB y = true then 1 else 0
/-- Leap years from year 1 on up to a year. -/
def lps (y : Int) : Int := y / 4 - y / 100 + y / 400
/-- The number of January 1. -/
def start (y : Int) : Int := (y - 1990) * 365 + lps (y - 1) - 482
/-- Days of a common year before month m + 1. -/
def cum (m : Int) : Int := (367 * m + 5) / 12 - (if 2 ≤ m then 2 else 0)
/-- Days of a year before month m + 1. -/
def days (y m : Int) : Int := cum m + (if 2 ≤ m then lp y else 0)
def num (y m d : Int) : Int := start y + days y (m - 1) + d - 1
def okB (y m d : Int) : Bool := decide (1990 ≤ y ∧ y ≤ 2189 ∧ 1 ≤ m ∧ m ≤ 12 ∧ 1 ≤ d ∧ d ≤ days y m - days y (m - 1))

theorem ok_iff {y m d : Int} : okB y m d = true ↔ 1990 ≤ y ∧ y ≤ 2189 ∧ 1 ≤ m ∧ m ≤ 12 ∧ 1 ≤ d ∧ d ≤ days y m - days y (m - 1) := by
  unfold okB; exact decide_eq_true_iff

theorem leapB_iff (y : Int) : leapB y = true ↔ (y % 4 = 0 ∧ (y % 100 ≠ 0 ∨ y % 400 = 0)) := by
  unfold leapB; simp
theorem lp_01 (y : Int) : 0 ≤ lp y ∧ lp y ≤ 1 := by unfold lp; split <;> omega
theorem lps_succ (y : Int) : lps y = lps (y - 1) + lp y := by
  unfold lps lp
  have := leapB_iff y
  by_cases hl : leapB y = true
  · rw [if_pos hl]; have := this.1 hl; omega
  · rw [if_neg hl]
    have h2 : ¬ (y % 4 = 0 ∧ (y % 100 ≠ 0 ∨ y % 400 = 0)) := fun h => hl (this.2 h)
    omega
theorem start_succ (y : Int) : start (y + 1) = start y + 365 + lp y := by
  unfold start
  have := lps_succ y
  rw [show y + 1 - 1 = y by omega]; omega
theorem days_zero (y : Int) : days y 0 = 0 := by unfold days cum; simp
theorem days_twelve (y : Int) : days y 12 = 365 + lp y := by unfold days cum; simp
theorem cum_step (m : Int) (h1 : 1 ≤ m) (h2 : m ≤ 12) : 28 ≤ cum m - cum (m - 1) ∧ cum m - cum (m - 1) ≤ 31 ∧ (m = 2 → cum m - cum (m - 1) = 28) := by
  unfold cum; split <;> split <;> omega
theorem days_step (y m : Int) (h1 : 1 ≤ m) (h2 : m ≤ 12) : 28 ≤ days y m - days y (m - 1) ∧ days y m - days y (m - 1) ≤ 31 := by
  have := lp_01 y
  have h := cum_step m h1 h2
  unfold days
  split <;> split <;> omega
theorem days_mono (y : Int) (m m' : Int) (h0 : 0 ≤ m) (h : m ≤ m') (h2 : m' ≤ 12) : days y m ≤ days y m' := by
  have := lp_01 y
  unfold days cum
  split <;> split <;> omega
theorem days_bd (y m : Int) (h1 : 0 ≤ m) (h2 : m ≤ 12) : 0 ≤ days y m ∧ days y m ≤ 366 := by
  have := lp_01 y
  unfold days cum
  split <;> omega
theorem start_bd (y : Int) (h1 : 1990 ≤ y) (h2 : y ≤ 2190) : 0 ≤ start y ∧ start y ≤ 73049 := by
  unfold start lps; omega
theorem start_first : start 1990 = 0 := by decide
theorem start_last : start 2190 = 73049 := by decide
theorem start_mono (y z : Int) (h1 : 1990 ≤ y) (h2 : y < z) : start y + 365 + lp y ≤ start z := by
  have e := start_succ y
  have : start (y + 1) ≤ start z := by unfold start lps; omega
  omega
/-- The number of a date lies in its year. -/
theorem num_year {y m d : Int} (h : okB y m d = true) : start y ≤ num y m d ∧ num y m d < start (y + 1) := by
  obtain ⟨h1, h2, h3, h4, h5, h6⟩ := ok_iff.1 h
  rw [start_succ y, ← Int.add_comm (lp y), ← Int.add_assoc]
  have a := days_mono y 0 (m - 1) (by omega) (by omega) (by omega)
  have b := days_mono y m 12 (by omega) (by omega) (by omega)
  rw [days_zero] at a
  rw [days_twelve] at b
  unfold num; omega
theorem num_bd {y m d : Int} (h : okB y m d = true) : 0 ≤ num y m d ∧ num y m d ≤ 73048 := by
  have hy := num_year h
  obtain ⟨h1, h2, _⟩ := ok_iff.1 h
  have a := start_bd y h1 (by omega)
  have b := start_bd (y + 1) (by omega) (by omega)
  omega
/-- A date is determined by its number. -/
theorem num_inj {y m d y' m' d' : Int} (h : okB y m d = true) (h' : okB y' m' d' = true) (e : num y m d = num y' m' d') : y = y' ∧ m = m' ∧ d = d' := by
  have a := num_year h
  have a' := num_year h'
  obtain ⟨h1, h2, h3, h4, h5, h6⟩ := ok_iff.1 h
  obtain ⟨h1', h2', h3', h4', h5', h6'⟩ := ok_iff.1 h'
  have hy : y = y' := by
    rcases Int.lt_trichotomy y y' with hlt | heq | hgt
    · have := start_mono y y' h1 hlt; rw [start_succ y] at a; omega
    · exact heq
    · have := start_mono y' y h1' hgt; rw [start_succ y'] at a'; omega
  subst hy
  have hm : m = m' := by
    rcases Int.lt_trichotomy m m' with hlt | heq | hgt
    · have := days_mono y m (m' - 1) (by omega) (by omega) (by omega); unfold num at e; omega
    · exact heq
    · have := days_mono y m' (m - 1) (by omega) (by omega) (by omega); unfold num at e; omega
  subst hm
  refine ⟨rfl, rfl, ?_⟩
  unfold num at e; omega
/-- The next day's date. -/
theorem next_date {y m d y' m' d' : Int} (h : okB y m d = true) (h' : okB y' m' d' = true) (e : num y' m' d' = num y m d + 1) :
    (y' = y ∧ m' = m ∧ d' = d + 1) ∨ (y' = y ∧ m' = m + 1 ∧ d' = 1 ∧ 28 ≤ d) ∨ (y' = y + 1 ∧ m' = 1 ∧ d' = 1 ∧ m = 12 ∧ d = 31) := by
  obtain ⟨h1, h2, h3, h4, h5, h6⟩ := ok_iff.1 h
  have hb := num_bd h'
  by_cases c1 : d + 1 ≤ days y m - days y (m - 1)
  · left
    have k : okB y m (d + 1) = true := ok_iff.2 ⟨h1, h2, h3, h4, by omega, c1⟩
    exact num_inj h' k (by rw [e]; unfold num; omega)
  · right
    have hs := days_step y m h3 h4
    by_cases c2 : m < 12
    · left
      have hs' := days_step y (m + 1) (by omega) (by omega)
      rw [show m + 1 - 1 = m by omega] at hs'
      have k : okB y (m + 1) 1 = true := ok_iff.2 ⟨h1, h2, by omega, by omega, by omega, by rw [show m + 1 - 1 = m by omega]; omega⟩
      obtain ⟨a, b, c⟩ := num_inj h' k (by rw [e]; unfold num; rw [show m + 1 - 1 = m by omega]; omega)
      exact ⟨a, b, c, by omega⟩
    · right
      obtain rfl : m = 12 := by omega
      have hd : d = 31 := by
        have : days y 12 - days y (12 - 1) = 31 := by unfold days cum; simp; omega
        omega
      have hy : y ≠ 2189 := by
        intro hy
        have a := num_year h
        have b := start_last
        have e2 : num y 12 d = start y + days y 12 - 1 := by unfold num; omega
        rw [days_twelve] at e2
        have := start_succ y
        subst hy
        rw [show (2189 : Int) + 1 = 2190 by decide] at this
        omega
      have hs1 := days_step (y + 1) 1 (by omega) (by omega)
      have k : okB (y + 1) 1 1 = true := ok_iff.2 ⟨by omega, by omega, by omega, by omega, by omega, by omega⟩
      obtain ⟨a, b, c⟩ := num_inj h' k (by
        rw [e]
        have e2 : num y 12 d = start y + days y 12 - 1 := by unfold num; omega
        rw [e2, days_twelve]
        unfold num
        rw [start_succ y, show (1 : Int) - 1 = 0 by decide, days_zero]; omega)
      exact ⟨a, b, c, rfl, hd⟩
/-- The day that is some months later. -/
def months (y m d k : Int) : Int :=
  start ((y * 12 + m - 1 + k) / 12) + days ((y * 12 + m - 1 + k) / 12) ((y * 12 + m - 1 + k) % 12) +
    min d (days ((y * 12 + m - 1 + k) / 12) ((y * 12 + m - 1 + k) % 12 + 1) - days ((y * 12 + m - 1 + k) / 12) ((y * 12 + m - 1 + k) % 12)) - 1
/-- The month that the search finds. -/
theorem month_of {y n : Int} {r : Nat} (h1 : 1990 ≤ y) (h2 : y ≤ 2189) (h3 : start y ≤ n) (h4 : n - start y < 365 + lp y) (hr : r ≤ 12)
    (ha : ∀ t : Nat, t < r → decide (n - start y < days y (t + 1)) = false) (hb : ∀ t : Nat, r ≤ t → t < 12 → decide (n - start y < days y (t + 1)) = true) :
    r < 12 ∧ okB y (r + 1) (n - start y - days y r + 1) = true ∧ num y (r + 1) (n - start y - days y r + 1) = n := by
  have hr2 : r < 12 := by
    rcases Nat.lt_or_ge r 12 with h | h
    · exact h
    · have := of_decide_eq_false (ha 11 (by omega))
      rw [show ((11 : Nat) : Int) + 1 = 12 by decide, days_twelve] at this
      omega
  have hb2 := of_decide_eq_true (hb r (Nat.le_refl _) hr2)
  have ha2 : days y r ≤ n - start y := by
    rcases Nat.eq_zero_or_pos r with h | h
    · subst h; have := days_zero y; rw [show ((0 : Nat) : Int) = 0 by decide, this]; omega
    · have := of_decide_eq_false (ha (r - 1) (by omega))
      rw [show ((r - 1 : Nat) : Int) + 1 = r by omega] at this
      omega
  refine ⟨hr2, ok_iff.2 ⟨h1, h2, by omega, by omega, by omega, ?_⟩, ?_⟩
  · rw [show (r : Int) + 1 - 1 = r by omega]; omega
  · unfold num; rw [show (r : Int) + 1 - 1 = r by omega]; omega
/-- Every day number is that of a date. -/
theorem exists_year (n : Int) (h0 : 0 ≤ n) : ∀ k : Nat, n < start (1990 + k) → ∃ y : Int, 1990 ≤ y ∧ y < 1990 + k ∧ start y ≤ n ∧ n < start (y + 1)
  | 0, h => by rw [show (1990 : Int) + ((0 : Nat) : Int) = 1990 by decide, start_first] at h; omega
  | k + 1, h => by
    by_cases c : n < start (1990 + k)
    · obtain ⟨y, a, b, c, d⟩ := exists_year n h0 k c
      exact ⟨y, a, by omega, c, d⟩
    · exact ⟨1990 + k, by omega, by omega, by omega, by rw [show (1990 : Int) + k + 1 = 1990 + ((k + 1 : Nat) : Int) by omega]; exact h⟩
theorem exists_month (y r : Int) (h0 : 0 ≤ r) : ∀ k : Nat, k ≤ 12 → r < days y k → ∃ m : Int, 1 ≤ m ∧ m ≤ k ∧ days y (m - 1) ≤ r ∧ r < days y m
  | 0, _, h => by rw [show ((0 : Nat) : Int) = 0 by decide, days_zero] at h; omega
  | k + 1, hk, h => by
    by_cases c : r < days y k
    · obtain ⟨m, a, b, c, d⟩ := exists_month y r h0 k (by omega) c
      exact ⟨m, a, by omega, c, d⟩
    · exact ⟨((k + 1 : Nat) : Int), by omega, by omega, by rw [show ((k + 1 : Nat) : Int) - 1 = k by omega]; omega, h⟩
theorem exists_date (n : Int) (h0 : 0 ≤ n) (h1 : n ≤ 73048) : ∃ y m d, okB y m d = true ∧ num y m d = n := by
  obtain ⟨y, a, b, c, e⟩ := exists_year n h0 200 (by rw [show (1990 : Int) + ((200 : Nat) : Int) = 2190 by decide, start_last]; omega)
  rw [start_succ] at e
  obtain ⟨m, f, g, h, i⟩ := exists_month y (n - start y) (by omega) 12 (Nat.le_refl _) (by rw [show ((12 : Nat) : Int) = 12 by decide, days_twelve]; omega)
  exact ⟨y, m, n - start y - days y (m - 1) + 1, ok_iff.2 ⟨a, by omega, f, by omega, by omega, by omega⟩, by unfold num; omega⟩
end Go.Proofs.YthnjbcdfcpchnaaDoor.Cal
