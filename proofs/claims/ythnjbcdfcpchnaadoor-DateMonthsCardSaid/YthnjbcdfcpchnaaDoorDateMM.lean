/- Plain arithmetic of adding months; no program in sight. -/
import Derived.Test.YthnjbcdfcpchnaaDoorDateM
namespace Go.Proofs.YthnjbcdfcpchnaaDoor.Cal
theorem month_lt {y m d y' m' d' : Int} (h : okB y m d = true) (h' : okB y' m' d' = true) (hlt : y * 12 + m < y' * 12 + m') : num y m d < num y' m' d' := by
  have a := num_year h
  have a' := num_year h'
  obtain ⟨h1, h2, h3, h4, h5, h6⟩ := ok_iff.1 h
  obtain ⟨h1', h2', h3', h4', h5', h6'⟩ := ok_iff.1 h'
  by_cases c : y < y'
  · have := start_mono y y' h1 c; rw [start_succ y] at a; omega
  · obtain rfl : y = y' := by omega
    have := days_mono y m (m' - 1) (by omega) (by omega) (by omega)
    unfold num; omega
/-- The date some months later. -/
theorem months_date {y m d k : Int} (h : okB y m d = true) (r1 : 23880 ≤ y * 12 + m - 1 + k) (r2 : y * 12 + m - 1 + k < 26280) :
    ∃ y' m' d', okB y' m' d' = true ∧ num y' m' d' = months y m d k ∧ y' * 12 + m' - 1 = y * 12 + m - 1 + k ∧ d' ≤ d ∧ (d' = d ∨ d' = days y' m' - days y' (m' - 1)) ∧ (d ≤ 28 → d' = d) ∧
      d' = min d (days y' m' - days y' (m' - 1)) := by
  obtain ⟨h1, h2, h3, h4, h5, h6⟩ := ok_iff.1 h
  have hs := days_step ((y * 12 + m - 1 + k) / 12) ((y * 12 + m - 1 + k) % 12 + 1) (by omega) (by omega)
  have e : (y * 12 + m - 1 + k) % 12 + 1 - 1 = (y * 12 + m - 1 + k) % 12 := by omega
  refine ⟨(y * 12 + m - 1 + k) / 12, (y * 12 + m - 1 + k) % 12 + 1, min d (days ((y * 12 + m - 1 + k) / 12) ((y * 12 + m - 1 + k) % 12 + 1) - days ((y * 12 + m - 1 + k) / 12) ((y * 12 + m - 1 + k) % 12)), ?_, ?_, by omega, by omega, ?_, ?_, ?_⟩
  · rw [e] at hs
    exact ok_iff.2 ⟨by omega, by omega, by omega, by omega, by omega, by rw [e]; omega⟩
  · unfold num months; rw [e]
  · rw [e]; omega
  · intro hd; rw [e] at hs; omega
  · rw [e]
theorem months_back {y m d k y' m' d' : Int} (h : okB y m d = true) (h' : okB y' m' d' = true) (hd : d ≤ 28) (e1 : y' * 12 + m' - 1 = y * 12 + m - 1 + k) (e2 : d' = d) : months y' m' d' (-k) = num y m d := by
  obtain ⟨h1, h2, h3, h4, h5, h6⟩ := ok_iff.1 h
  have hs := days_step y m h3 h4
  have a1 : (y' * 12 + m' - 1 + -k) / 12 = y := by omega
  have a2 : (y' * 12 + m' - 1 + -k) % 12 = m - 1 := by omega
  unfold months num
  rw [a1, a2, show m - 1 + 1 = m by omega, e2]
  omega
theorem months_mono {y m d y2 m2 d2 k : Int} (h : okB y m d = true) (h2 : okB y2 m2 d2 = true) (hle : num y m d ≤ num y2 m2 d2) (r1 : 23880 ≤ y * 12 + m - 1 + k) (r2 : y * 12 + m - 1 + k < 26280)
    (q1 : 23880 ≤ y2 * 12 + m2 - 1 + k) (q2 : y2 * 12 + m2 - 1 + k < 26280) : months y m d k ≤ months y2 m2 d2 k := by
  obtain ⟨y', m', d', a1, a2, a3, _, _, _, a4⟩ := months_date h r1 r2
  obtain ⟨z', n', f', b1, b2, b3, _, _, _, b4⟩ := months_date h2 q1 q2
  rw [← a2, ← b2]
  have hle2 : y * 12 + m ≤ y2 * 12 + m2 := by
    rcases Int.lt_or_le (y2 * 12 + m2) (y * 12 + m) with hh | hh
    · have := month_lt h2 h hh; omega
    · exact hh
  by_cases c : y * 12 + m < y2 * 12 + m2
  · exact Int.le_of_lt (month_lt a1 b1 (by omega))
  · obtain ⟨c1, c2, c3, c4, c5, c6⟩ := ok_iff.1 h
    obtain ⟨g1, g2, g3, g4, g5, g6⟩ := ok_iff.1 h2
    obtain rfl : y = y2 := by omega
    obtain rfl : m = m2 := by omega
    obtain ⟨k1, k2, k3, k4, k5, k6⟩ := ok_iff.1 a1
    obtain ⟨l1, l2, l3, l4, l5, l6⟩ := ok_iff.1 b1
    obtain rfl : y' = z' := by omega
    obtain rfl : m' = n' := by omega
    have : d ≤ d2 := by unfold num at hle; omega
    unfold num; omega
/-- Behind the last day of a month the next one begins. -/
theorem next_first {y m d y' m' d' : Int} (h : okB y m d = true) (h' : okB y' m' d' = true) (e : num y' m' d' = num y m d + 1) (hd : d = days y m - days y (m - 1)) : d' = 1 := by
  rcases next_date h h' e with ⟨rfl, rfl, rfl⟩ | ⟨_, _, h, _⟩ | ⟨_, _, h, _⟩
  · have := (ok_iff.1 h').2.2.2.2.2; omega
  · exact h
  · exact h
/-- What Months returns for any arguments. -/
noncomputable def dateOf (n : Int) : Int × Int × Int :=
  open Classical in if h : ∃ t : Int × Int × Int, okB t.1 t.2.1 t.2.2 = true ∧ num t.1 t.2.1 t.2.2 = n then Classical.choose h else (0, 0, 0)
theorem dateOf_eq {y m d n : Int} (h : okB y m d = true) (hn : num y m d = n) : dateOf n = (y, m, d) := by
  have hx : ∃ t : Int × Int × Int, okB t.1 t.2.1 t.2.2 = true ∧ num t.1 t.2.1 t.2.2 = n := ⟨(y, m, d), h, hn⟩
  unfold dateOf
  rw [dif_pos hx]
  obtain ⟨a, b⟩ := Classical.choose_spec hx
  generalize Classical.choose hx = t at *
  obtain ⟨e1, e2, e3⟩ := num_inj a h (by rw [b, hn])
  obtain ⟨t1, t2, t3⟩ := t
  simp at e1 e2 e3 ⊢
  exact ⟨e1, e2, e3⟩
noncomputable def mE (n k : Int) : Int :=
  if n < 0 ∨ 73048 < n ∨ k < -2400 ∨ 2400 < k then 1 else if (dateOf n).1 * 12 + (dateOf n).2.1 - 1 + k < 23880 ∨ 26280 ≤ (dateOf n).1 * 12 + (dateOf n).2.1 - 1 + k then 2 else 0
noncomputable def mV (n k : Int) : Int := if mE n k = 0 then months (dateOf n).1 (dateOf n).2.1 (dateOf n).2.2 k else 0
end Go.Proofs.YthnjbcdfcpchnaaDoor.Cal
