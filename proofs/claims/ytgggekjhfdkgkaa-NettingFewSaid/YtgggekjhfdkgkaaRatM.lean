/- Plain arithmetic of ratios in lowest terms, as rational numbers; no program in sight. -/
import Derived.KernelRfl
namespace Go.Proofs.Ytgggekjhfdkgkaa.Rt

/-- Within the limits of numerators and denominators. -/
def fits (r : Rat) : Bool := decide (r.num.natAbs ≤ 1000000000000 ∧ r.den ≤ 1000000)
/-- A valid ratio: positive denominator, lowest terms, within the limits. -/
def ok (n d : Int) : Bool := decide (1 ≤ d ∧ d ≤ 1000000 ∧ n.natAbs ≤ 1000000000000 ∧ Nat.gcd n.natAbs d.natAbs = 1)
/-- Its value. -/
def val (n d : Int) : Rat := mkRat n d.natAbs
theorem ok_iff {n d : Int} : ok n d = true ↔ 1 ≤ d ∧ d ≤ 1000000 ∧ n.natAbs ≤ 1000000000000 ∧ Nat.gcd n.natAbs d.natAbs = 1 := by unfold ok; exact decide_eq_true_iff
theorem fits_iff {r : Rat} : fits r = true ↔ r.num.natAbs ≤ 1000000000000 ∧ r.den ≤ 1000000 := by unfold fits; exact decide_eq_true_iff
theorem val_eq {n d : Int} (h : ok n d = true) : (val n d).num = n ∧ ((val n d).den : Int) = d := by
  obtain ⟨h1, h2, h3, h4⟩ := ok_iff.1 h
  have hz : d.natAbs ≠ 0 := by omega
  have e : val n d = ⟨n, d.natAbs, hz, h4⟩ := by
    unfold val
    rw [← Rat.normalize_eq_mkRat hz, Rat.normalize_eq hz]
    simp [h4]
  rw [e]
  exact ⟨rfl, by show ((d.natAbs : Nat) : Int) = d; omega⟩
theorem ok_rat {r : Rat} (h : fits r = true) : ok r.num r.den = true := by
  obtain ⟨h1, h2⟩ := fits_iff.1 h
  have := r.den_pos
  exact ok_iff.2 ⟨by omega, by omega, h1, by simpa using r.reduced⟩
theorem val_rat (r : Rat) : val r.num r.den = r := by
  unfold val
  rw [Int.natAbs_natCast]; exact Rat.mkRat_self r
theorem fits_val {n d : Int} (h : ok n d = true) : fits (val n d) = true := by
  obtain ⟨h1, h2, h3, h4⟩ := ok_iff.1 h
  obtain ⟨e1, e2⟩ := val_eq h
  exact fits_iff.2 ⟨by rw [e1]; exact h3, by omega⟩
/-- A valid ratio is determined by its value. -/
theorem val_inj {n d n' d' : Int} (h : ok n d = true) (h' : ok n' d' = true) (e : val n d = val n' d') : n = n' ∧ d = d' := by
  obtain ⟨e1, e2⟩ := val_eq h
  obtain ⟨e3, e4⟩ := val_eq h'
  rw [e] at e1 e2
  exact ⟨e1.symm.trans e3, e2.symm.trans e4⟩
/-- A rational as a result: numerator, denominator, error. -/
def fit (r : Rat) : Int × Int × Int := if fits r = true then (r.num, (r.den : Int), 0) else (0, 0, 2)
/-- What reduced computes of two magnitudes and a sign. -/
def red (neg : Bool) (n d : Nat) : Int × Int × Int :=
  if 1000000000000 < n / Nat.gcd n d ∨ 1000000 < d / Nat.gcd n d then (0, 0, 2) else (if neg = true then -((n / Nat.gcd n d : Nat) : Int) else ((n / Nat.gcd n d : Nat) : Int), ((d / Nat.gcd n d : Nat) : Int), 0)
theorem red_fit (neg : Bool) (n d : Nat) (hd : d ≠ 0) : red neg n d = fit (mkRat (if neg = true then -(n : Int) else (n : Int)) d) := by
  have e : mkRat (if neg = true then -(n : Int) else (n : Int)) d = Rat.normalize (if neg = true then -(n : Int) else (n : Int)) d hd := (Rat.normalize_eq_mkRat hd).symm
  have hna : (if neg = true then -(n : Int) else (n : Int)).natAbs = n := by split <;> omega
  have hg : 0 < Nat.gcd n d := Nat.gcd_pos_of_pos_right _ (Nat.pos_of_ne_zero hd)
  have hdv : (n : Int) / (Nat.gcd n d : Int) = ((n / Nat.gcd n d : Nat) : Int) := by simp
  have hdn : -(n : Int) / (Nat.gcd n d : Int) = -((n / Nat.gcd n d : Nat) : Int) := by
    rw [Int.neg_ediv_of_dvd (by exact_mod_cast Nat.gcd_dvd_left n d), hdv]
  have hnum : (if neg = true then -(n : Int) else (n : Int)) / (Nat.gcd n d : Int) = if neg = true then -((n / Nat.gcd n d : Nat) : Int) else ((n / Nat.gcd n d : Nat) : Int) := by
    split
    · exact hdn
    · exact hdv
  rw [e, Rat.normalize_eq hd]
  simp only [hna]
  unfold fit red fits
  simp only [hnum]
  generalize n / Nat.gcd n d = q
  generalize d / Nat.gcd n d = r
  have habs : (if neg = true then -(q : Int) else (q : Int)).natAbs = q := by split <;> omega
  rw [habs]
  by_cases c : 1000000000000 < q ∨ 1000000 < r
  · rw [if_pos c, if_neg (by simp; omega)]
  · rw [if_neg c, if_pos (decide_eq_true (by omega))]
/-- What Make computes. -/
def make (n d : Int) : Int × Int × Int := if d = 0 then (0, 0, 1) else fit (Rat.divInt n d)
theorem make_red {n d : Int} (hd : d ≠ 0) : make n d = red (decide (n < 0) != decide (d < 0)) n.natAbs d.natAbs := by
  rw [red_fit _ _ _ (by omega)]
  unfold make
  rw [if_neg hd]
  congr 1
  rcases Int.lt_or_lt_of_ne hd with h | h
  · have e : d = -(d.natAbs : Int) := by omega
    have h1 : Rat.divInt n d = mkRat (-n) d.natAbs := by
      rw [e, Rat.divInt_neg', Int.natAbs_neg, Int.natAbs_natCast, Rat.divInt_ofNat]
    rw [h1]
    congr 1
    by_cases hn : n < 0
    · simp [hn, h]; omega
    · simp [hn, h]; omega
  · have e : d = (d.natAbs : Int) := by omega
    have h1 : Rat.divInt n d = mkRat n d.natAbs := by
      rw [e, Int.natAbs_natCast, Rat.divInt_ofNat]
    rw [h1]
    congr 1
    by_cases hn : n < 0
    · simp [hn, Int.not_lt.2 (Int.le_of_lt h)]; omega
    · simp [hn, Int.not_lt.2 (Int.le_of_lt h)]; omega
def add (an ad bn bd : Int) : Int × Int × Int := if ok an ad = true ∧ ok bn bd = true then fit (val an ad + val bn bd) else (0, 0, 1)
theorem add_make {an ad bn bd : Int} (ha : ok an ad = true) (hb : ok bn bd = true) : add an ad bn bd = make (an * bd + bn * ad) (ad * bd) := by
  obtain ⟨a1, _, _, _⟩ := ok_iff.1 ha
  obtain ⟨b1, _, _, _⟩ := ok_iff.1 hb
  have hp : 0 < ad * bd := Int.mul_pos (by omega) (by omega)
  unfold add make
  rw [if_pos ⟨ha, hb⟩, if_neg (by omega)]
  congr 1
  unfold val
  rw [Rat.mkRat_add_mkRat _ _ (by omega) (by omega)]
  rw [show ad * bd = ((ad.natAbs * bd.natAbs : Nat) : Int) by rw [Int.natCast_mul]; rw [Int.natAbs_of_nonneg (by omega), Int.natAbs_of_nonneg (by omega)], Rat.divInt_ofNat]
  rw [Int.natAbs_of_nonneg (by omega : 0 ≤ ad), Int.natAbs_of_nonneg (by omega : 0 ≤ bd)]
theorem ok_neg (n d : Int) : ok (-n) d = ok n d := by unfold ok; rw [Int.natAbs_neg]
theorem val_neg (n d : Int) : val (-n) d = -val n d := by unfold val; exact (Rat.neg_mkRat n d.natAbs).symm
/-- What Cmp computes. -/
def cmp (an ad bn bd : Int) : Int := if ok an ad = true ∧ ok bn bd = true then (if val an ad < val bn bd then -1 else if val bn bd < val an ad then 1 else 0) else 0
theorem lt_iff {an ad bn bd : Int} (ha : ok an ad = true) (hb : ok bn bd = true) : val an ad < val bn bd ↔ an * bd - bn * ad < 0 := by
  obtain ⟨e1, e2⟩ := val_eq ha
  obtain ⟨e3, e4⟩ := val_eq hb
  rw [Rat.lt_iff, e1, e2, e3, e4]; omega
theorem mul_bd {n d : Int} (a b : Int) (ha : n.natAbs ≤ 1000000000000) (h1 : 1 ≤ d) (h2 : d ≤ 1000000) (e : a = n) (f : b = d) : -1000000000000000000 ≤ a * b ∧ a * b ≤ 1000000000000000000 := by
  subst e f
  have h : (a * b).natAbs ≤ 1000000000000 * 1000000 := by
    rw [Int.natAbs_mul]
    exact Nat.mul_le_mul ha (by omega)
  omega
end Go.Proofs.Ytgggekjhfdkgkaa.Rt
