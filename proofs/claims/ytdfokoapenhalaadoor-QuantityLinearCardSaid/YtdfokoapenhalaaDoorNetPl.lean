/- Plain ratios and netting: rational numbers, positions, pairs and settling; no program in sight. -/
import Derived.KernelRfl
section
namespace Go.Proofs.YtdfokoapenhalaaDoor.Rt

/-- Within the limits of numerators and denominators. -/
def fits (r : Rat) : Bool := decide (r.num.natAbs ≤ 1000000000000 ∧ r.den ≤ 1000000)
/-- A valid ratio: positive denominator, lowest terms, within the limits. -/
def ok (n d : Int) : Bool := decide (1 ≤ d ∧ d ≤ 1000000 ∧ n.natAbs ≤ 1000000000000 ∧ Nat.gcd n.natAbs d.natAbs = 1)
/-- Its value. -/
def val (n d : Int) : Rat := mkRat n d.natAbs
theorem ok_iff {n d : Int} : ok n d = true ↔ 1 ≤ d ∧ d ≤ 1000000 ∧ n.natAbs ≤ 1000000000000 ∧ Nat.gcd n.natAbs d.natAbs = 1 := by unfold ok; exact decide_eq_true_iff
theorem fits_iff {r : Rat} : fits r = true ↔ r.num.natAbs ≤ 1000000000000 ∧ r.den ≤ 1000000 := by unfold fits; exact decide_eq_true_iff
theorem val_eq {n d : Int} (h : ok n d = true) : (val n d).num = n ∧ ((val n d).den : Int) = d := by
  obtain ⟨h1, h2, h3, h4⟩ := ok_iff.1 h
  have hz : d.natAbs ≠ 0 := by omega
  have e : val n d = ⟨n, d.natAbs, hz, h4⟩ := by
    unfold val
    rw [← Rat.normalize_eq_mkRat hz, Rat.normalize_eq hz]
    simp [h4]
  rw [e]
  exact ⟨rfl, by show ((d.natAbs : Nat) : Int) = d; omega⟩
theorem ok_rat {r : Rat} (h : fits r = true) : ok r.num r.den = true := by
  obtain ⟨h1, h2⟩ := fits_iff.1 h
  have := r.den_pos
  exact ok_iff.2 ⟨by omega, by omega, h1, by simpa using r.reduced⟩
theorem val_rat (r : Rat) : val r.num r.den = r := by
  unfold val
  rw [Int.natAbs_natCast]; exact Rat.mkRat_self r
theorem fits_val {n d : Int} (h : ok n d = true) : fits (val n d) = true := by
  obtain ⟨h1, h2, h3, h4⟩ := ok_iff.1 h
  obtain ⟨e1, e2⟩ := val_eq h
  exact fits_iff.2 ⟨by rw [e1]; exact h3, by omega⟩
/-- A valid ratio is determined by its value. -/
theorem val_inj {n d n' d' : Int} (h : ok n d = true) (h' : ok n' d' = true) (e : val n d = val n' d') : n = n' ∧ d = d' := by
  obtain ⟨e1, e2⟩ := val_eq h
  obtain ⟨e3, e4⟩ := val_eq h'
  rw [e] at e1 e2
  exact ⟨e1.symm.trans e3, e2.symm.trans e4⟩
/-- A rational as a result: numerator, denominator, error. -/
def fit (r : Rat) : Int × Int × Int := if fits r = true then (r.num, (r.den : Int), 0) else (0, 0, 2)
/-- What reduced computes of two magnitudes and a sign. -/
def red (neg : Bool) (n d : Nat) : Int × Int × Int :=
  if 1000000000000 < n / Nat.gcd n d ∨ 1000000 < d / Nat.gcd n d then (0, 0, 2) else (if neg = true then -((n / Nat.gcd n d : Nat) : Int) else ((n / Nat.gcd n d : Nat) : Int), ((d / Nat.gcd n d : Nat) : Int), 0)
theorem red_fit (neg : Bool) (n d : Nat) (hd : d ≠ 0) : red neg n d = fit (mkRat (if neg = true then -(n : Int) else (n : Int)) d) := by
  have e : mkRat (if neg = true then -(n : Int) else (n : Int)) d = Rat.normalize (if neg = true then -(n : Int) else (n : Int)) d hd := (Rat.normalize_eq_mkRat hd).symm
  have hna : (if neg = true then -(n : Int) else (n : Int)).natAbs = n := by split <;> omega
  have hg : 0 < Nat.gcd n d := Nat.gcd_pos_of_pos_right _ (Nat.pos_of_ne_zero hd)
  have hdv : (n : Int) / (Nat.gcd n d : Int) = ((n / Nat.gcd n d : Nat) : Int) := by simp
  have hdn : -(n : Int) / (Nat.gcd n d : Int) = -((n / Nat.gcd n d : Nat) : Int) := by
    rw [Int.neg_ediv_of_dvd (by exact_mod_cast Nat.gcd_dvd_left n d), hdv]
  have hnum : (if neg = true then -(n : Int) else (n : Int)) / (Nat.gcd n d : Int) = if neg = true then -((n / Nat.gcd n d : Nat) : Int) else ((n / Nat.gcd n d : Nat) : Int) := by
    split
    · exact hdn
    · exact hdv
  rw [e, Rat.normalize_eq hd]
  simp only [hna]
  unfold fit red fits
  simp only [hnum]
  generalize n / Nat.gcd n d = q
  generalize d / Nat.gcd n d = r
  have habs : (if neg = true then -(q : Int) else (q : Int)).natAbs = q := by split <;> omega
  rw [habs]
  by_cases c : 1000000000000 < q ∨ 1000000 < r
  · rw [if_pos c, if_neg (by simp; omega)]
  · rw [if_neg c, if_pos (decide_eq_true (by omega))]
/-- What Make computes. -/
def make (n d : Int) : Int × Int × Int := if d = 0 then (0, 0, 1) else fit (Rat.divInt n d)
theorem make_red {n d : Int} (hd : d ≠ 0) : make n d = red (decide (n < 0) != decide (d < 0)) n.natAbs d.natAbs := by
  rw [red_fit _ _ _ (by omega)]
  unfold make
  rw [if_neg hd]
  congr 1
  rcases Int.lt_or_lt_of_ne hd with h | h
  · have e : d = -(d.natAbs : Int) := by omega
    have h1 : Rat.divInt n d = mkRat (-n) d.natAbs := by
      rw [e, Rat.divInt_neg', Int.natAbs_neg, Int.natAbs_natCast, Rat.divInt_ofNat]
    rw [h1]
    congr 1
    by_cases hn : n < 0
    · simp [hn, h]; omega
    · simp [hn, h]; omega
  · have e : d = (d.natAbs : Int) := by omega
    have h1 : Rat.divInt n d = mkRat n d.natAbs := by
      rw [e, Int.natAbs_natCast, Rat.divInt_ofNat]
    rw [h1]
    congr 1
    by_cases hn : n < 0
    · simp [hn, Int.not_lt.2 (Int.le_of_lt h)]; omega
    · simp [hn, Int.not_lt.2 (Int.le_of_lt h)]; omega
def add (an ad bn bd : Int) : Int × Int × Int := if ok an ad = true ∧ ok bn bd = true then fit (val an ad + val bn bd) else (0, 0, 1)
theorem add_make {an ad bn bd : Int} (ha : ok an ad = true) (hb : ok bn bd = true) : add an ad bn bd = make (an * bd + bn * ad) (ad * bd) := by
  obtain ⟨a1, _, _, _⟩ := ok_iff.1 ha
  obtain ⟨b1, _, _, _⟩ := ok_iff.1 hb
  have hp : 0 < ad * bd := Int.mul_pos (by omega) (by omega)
  unfold add make
  rw [if_pos ⟨ha, hb⟩, if_neg (by omega)]
  congr 1
  unfold val
  rw [Rat.mkRat_add_mkRat _ _ (by omega) (by omega)]
  rw [show ad * bd = ((ad.natAbs * bd.natAbs : Nat) : Int) by rw [Int.natCast_mul]; rw [Int.natAbs_of_nonneg (by omega), Int.natAbs_of_nonneg (by omega)], Rat.divInt_ofNat]
  rw [Int.natAbs_of_nonneg (by omega : 0 ≤ ad), Int.natAbs_of_nonneg (by omega : 0 ≤ bd)]
theorem ok_neg (n d : Int) : ok (-n) d = ok n d := by unfold ok; rw [Int.natAbs_neg]
theorem val_neg (n d : Int) : val (-n) d = -val n d := by unfold val; exact (Rat.neg_mkRat n d.natAbs).symm
/-- What Cmp computes. -/
def cmp (an ad bn bd : Int) : Int := if ok an ad = true ∧ ok bn bd = true then (if val an ad < val bn bd then -1 else if val bn bd < val an ad then 1 else 0) else 0
theorem lt_iff {an ad bn bd : Int} (ha : ok an ad = true) (hb : ok bn bd = true) : val an ad < val bn bd ↔ an * bd - bn * ad < 0 := by
  obtain ⟨e1, e2⟩ := val_eq ha
  obtain ⟨e3, e4⟩ := val_eq hb
  rw [Rat.lt_iff, e1, e2, e3, e4]; omega
theorem mul_bd {n d : Int} (a b : Int) (ha : n.natAbs ≤ 1000000000000) (h1 : 1 ≤ d) (h2 : d ≤ 1000000) (e : a = n) (f : b = d) : -1000000000000000000 ≤ a * b ∧ a * b ≤ 1000000000000000000 := by
  subst e f
  have h : (a * b).natAbs ≤ 1000000000000 * 1000000 := by
    rw [Int.natAbs_mul]
    exact Nat.mul_le_mul ha (by omega)
  omega
end Go.Proofs.YtdfokoapenhalaaDoor.Rt
end
section
namespace Go.Proofs.YtdfokoapenhalaaDoor.Nt
open Rt

/-- A debt: from, to, numerator, denominator. -/
structure Debt where
  f : Int
  t : Int
  n : Int
  d : Int
  deriving DecidableEq
def Debt.amt (x : Debt) : Rat := val x.n x.d
def okD (m : Int) (x : Debt) : Bool := decide (0 ≤ x.f ∧ x.f < m) && decide (0 ≤ x.t ∧ x.t < m) && decide (x.f ≠ x.t) && Rt.ok x.n x.d && decide (0 < x.n)
def valid (m : Int) (l : List Debt) : Bool := decide (1 ≤ m ∧ m ≤ 12) && decide (l.length ≤ 400) && l.all (okD m)
theorem okD_iff {m : Int} {x : Debt} : okD m x = true ↔ (0 ≤ x.f ∧ x.f < m) ∧ (0 ≤ x.t ∧ x.t < m) ∧ x.f ≠ x.t ∧ Rt.ok x.n x.d = true ∧ 0 < x.n := by
  unfold okD; simp only [Bool.and_eq_true, decide_eq_true_eq, and_assoc]
theorem valid_iff {m : Int} {l : List Debt} : valid m l = true ↔ (1 ≤ m ∧ m ≤ 12) ∧ l.length ≤ 400 ∧ ∀ x ∈ l, okD m x = true := by
  unfold valid; simp only [Bool.and_eq_true, decide_eq_true_eq, List.all_eq_true, and_assoc]
theorem amt_pos {m : Int} {x : Debt} (h : okD m x = true) : 0 < x.amt := by
  obtain ⟨_, _, _, h4, h5⟩ := okD_iff.1 h
  obtain ⟨e1, _⟩ := val_eq h4
  unfold Debt.amt
  rw [Rat.lt_iff, e1]; simp; exact h5

/-- What one debt adds to a sum. -/
def sg (s : Int) (v : Rat) : Rat := if s = 1 then v else if s = -1 then -v else 0
/-- The sum of debts with signs, from r on: none if it leaves the range. -/
def sumO (s : Debt → Int) : List Debt → Rat → Option Rat
  | [], r => some r
  | x :: l, r => if fits (r + sg (s x) x.amt) = true then sumO s l (r + sg (s x) x.amt) else none
/-- The exact sum. -/
def sumR (s : Debt → Int) : List Debt → Rat
  | [] => 0
  | x :: l => sg (s x) x.amt + sumR s l
theorem sumO_exact {s : Debt → Int} : ∀ {l : List Debt} {r r' : Rat}, sumO s l r = some r' → r' = r + sumR s l
  | [], r, r', h => by injection h with h; subst h; unfold sumR; grind
  | x :: l, r, r', h => by
    unfold sumO at h
    split at h
    · have := sumO_exact h; unfold sumR; grind
    · cases h
theorem sumO_fits {s : Debt → Int} : ∀ {l : List Debt} {r r' : Rat}, fits r = true → sumO s l r = some r' → fits r' = true
  | [], r, r', hr, h => by injection h with h; subst h; exact hr
  | x :: l, r, r', _, h => by
    unfold sumO at h
    split at h
    · rename_i hf; exact sumO_fits hf h
    · cases h
/-- The result of a sum as three numbers. -/
def res (o : Option Rat) : Int × Int × Int := match o with | some r => (r.num, (r.den : Int), 0) | none => (0, 0, 2)
theorem sumO_step {s : Debt → Int} {l l' : List Debt} {k : Nat} {x : Debt} {r : Rat} {v : Int} (hd : l.drop k = x :: l') (hv : s x = v) (hf : fits (r + sg v x.amt) = true) : sumO s (l.drop k) r = sumO s l' (r + sg v x.amt) := by
  rw [hd, sumO, hv, if_pos hf]
theorem sumO_stop {s : Debt → Int} {l l' : List Debt} {k : Nat} {x : Debt} {r : Rat} {v : Int} (hd : l.drop k = x :: l') (hv : s x = v) (hf : ¬ fits (r + sg v x.amt) = true) : sumO s (l.drop k) r = none := by
  rw [hd, sumO, hv, if_neg hf]
theorem sumO_skip {s : Debt → Int} {l l' : List Debt} {k : Nat} {x : Debt} {r : Rat} (hd : l.drop k = x :: l') (h1 : ¬ s x = 1) (h2 : ¬ s x = -1) (hf : fits r = true) : sumO s (l.drop k) r = sumO s l' r := by
  have e : r + sg (s x) x.amt = r := by unfold sg; rw [if_neg h1, if_neg h2]; grind
  rw [hd, sumO, e, if_pos hf]
theorem add_sg1 {x : Debt} {r : Rat} (hf : fits r = true) (hx : ok x.n x.d = true) : add r.num r.den x.n x.d = fit (r + sg 1 x.amt) := by
  unfold add; rw [if_pos ⟨ok_rat hf, hx⟩, val_rat]; rfl
theorem add_sgm {x : Debt} {r : Rat} (hf : fits r = true) (hx : ok x.n x.d = true) : add r.num r.den (-x.n) x.d = fit (r + sg (-1) x.amt) := by
  unfold add; rw [if_pos ⟨ok_rat hf, by rw [ok_neg]; exact hx⟩, val_rat, val_neg]; rfl
def sgnP (p : Int) (x : Debt) : Int := if p = x.t then 1 else if p = x.f then -1 else 0
def sgnQ (a b : Int) (x : Debt) : Int := if x.f = a ∧ x.t = b then 1 else if x.f = b ∧ x.t = a then -1 else 0
def pos (l : List Debt) (p : Int) : Option Rat := sumO (sgnP p) l 0
def pair (l : List Debt) (a b : Int) : Option Rat := sumO (sgnQ a b) l 0
/-- The positions of the first k parties. -/
def posL (l : List Debt) : Nat → Option (List Rat)
  | 0 => some []
  | k + 1 => match posL l k with
    | none => none
    | some ps => match pos l k with
      | none => none
      | some r => some (ps ++ [r])
theorem zero_fits : fits 0 = true := by decide
theorem res_zero_num : (0 : Rat).num = 0 ∧ ((0 : Rat).den : Int) = 1 := by decide
end Go.Proofs.YtdfokoapenhalaaDoor.Nt
end
section
namespace Go.Proofs.YtdfokoapenhalaaDoor
abbrev pr (r : Rat) : Int × Int := (r.num, (r.den : Int))
theorem Nt.posL_len {l : List Nt.Debt} : ∀ {n : Nat} {ps : List Rat}, Nt.posL l n = some ps → ps.length = n
  | 0, ps, h => by injection h with h; subst h; rfl
  | n + 1, ps, h => by
    unfold Nt.posL at h
    cases h1 : Nt.posL l n with
    | none => rw [h1] at h; cases h
    | some qs =>
      rw [h1] at h
      cases h2 : Nt.pos l n with
      | none => rw [h2] at h; cases h
      | some r => rw [h2] at h; injection h with h; subst h; simp [Nt.posL_len h1]
theorem Nt.posL_next {l : List Nt.Debt} {k : Nat} {ps : List Rat} {r : Rat} (h : Nt.posL l k = some ps) (hr : Nt.pos l k = some r) : Nt.posL l (k + 1) = some (ps ++ [r]) := by
  rw [Nt.posL, h, hr]
theorem Nt.posL_none {l : List Nt.Debt} {k : Nat} {ps : List Rat} (h : Nt.posL l k = some ps) (hr : Nt.pos l k = none) : ∀ n, k < n → Nt.posL l n = none
  | 0, hn => absurd hn (by omega)
  | n + 1, hn => by
    by_cases e : k = n
    · subst e; rw [Nt.posL, h, hr]
    · rw [Nt.posL, Nt.posL_none h hr n (by omega)]
/-- The comparison of two ratios. -/
def Nt.cmpR (a b : Rat) : Int := if a < b then -1 else if b < a then 1 else 0
theorem Nt.cmp_rat {a b : Rat} (ha : Rt.fits a = true) (hb : Rt.fits b = true) : Rt.cmp a.num a.den b.num b.den = Nt.cmpR a b := by
  unfold Rt.cmp Nt.cmpR; rw [if_pos ⟨Rt.ok_rat ha, Rt.ok_rat hb⟩, Rt.val_rat, Rt.val_rat]
/-- The first extreme position among the first k ones. -/
def Nt.extK (c : Int → Bool) (ps : List Rat) : Nat → Nat
  | 0 => 0
  | k + 1 => if c (Nt.cmpR (ps.getD k 0) (ps.getD (Nt.extK c ps k) 0)) = true then k else Nt.extK c ps k
theorem Nt.extK_lt (c : Int → Bool) (ps : List Rat) (n : Nat) (hn : 0 < n) : ∀ k, k ≤ n → Nt.extK c ps k < n
  | 0, _ => hn
  | k + 1, hk => by
    unfold Nt.extK
    split
    · omega
    · exact Nt.extK_lt c ps n hn k (by omega)

end Go.Proofs.YtdfokoapenhalaaDoor
end
section
namespace Go.Proofs.YtdfokoapenhalaaDoor.Nt
open Rt

def dmin (ps : List Rat) : Nat := extK (fun x => decide (x < 0)) ps ps.length
def cmax (ps : List Rat) : Nat := extK (fun x => decide (0 < x)) ps ps.length
def amtX (ps : List Rat) : Rat := if -(ps.getD (dmin ps) 0) < ps.getD (cmax ps) 0 then -(ps.getD (dmin ps) 0) else ps.getD (cmax ps) 0
def nz (ps : List Rat) : Nat := ps.countP (fun r => decide (r ≠ 0))
def next (ps : List Rat) : List Rat := (ps.set (dmin ps) (ps.getD (dmin ps) 0 + amtX ps)).set (cmax ps) (ps.getD (cmax ps) 0 - amtX ps)
def pay (ps : List Rat) : Debt := ⟨(dmin ps : Nat), (cmax ps : Nat), (amtX ps).num, ((amtX ps).den : Int)⟩
def goes (ps : List Rat) : Prop := fits (ps.getD (dmin ps) 0 + amtX ps) = true ∧ fits (ps.getD (cmax ps) 0 - amtX ps) = true
instance (ps : List Rat) : Decidable (goes ps) := by unfold goes; infer_instance
def settle : Nat → List Rat → Option (List Debt)
  | 0, _ => none
  | f + 1, ps => if ps.getD (dmin ps) 0 = 0 then some [] else if goes ps then (settle f (next ps)).map (pay ps :: ·) else none
/-- What the debts among n parties are netted to. -/
def netO (l : List Debt) (n : Nat) : Option (List Debt) := (posL l n).bind (settle (n + 1))
def total (ps : List Rat) : Rat := ps.foldr (· + ·) 0
structure Good (n : Nat) (ps : List Rat) : Prop where
  len : ps.length = n
  pos : 1 ≤ n
  sum : total ps = 0
  fit : ∀ r ∈ ps, fits r = true

theorem extK_spec_min (ps : List Rat) : ∀ k, k ≤ ps.length → ∀ j, j < k → ps.getD (extK (fun x => decide (x < 0)) ps k) 0 ≤ ps.getD j 0
  | 0, _, j, hj => absurd hj (by omega)
  | k + 1, hk, j, hj => by
    have ih := extK_spec_min ps k (by omega)
    unfold extK cmpR
    by_cases h1 : ps.getD k 0 < ps.getD (extK (fun x => decide (x < 0)) ps k) 0
    · simp only [h1, if_true, if_pos, show decide ((-1 : Int) < 0) = true from rfl]
      by_cases e : j = k
      · subst e; grind
      · have := ih j (by omega); grind
    · have e : decide ((if ps.getD k 0 < ps.getD (extK (fun x => decide (x < 0)) ps k) 0 then (-1 : Int) else if ps.getD (extK (fun x => decide (x < 0)) ps k) 0 < ps.getD k 0 then 1 else 0) < 0) = false := by
        rw [if_neg h1]; split <;> rfl
      rw [if_neg (by rw [e]; decide)]
      by_cases e : j = k
      · subst e; grind
      · exact ih j (by omega)
theorem extK_spec_max (ps : List Rat) : ∀ k, k ≤ ps.length → ∀ j, j < k → ps.getD j 0 ≤ ps.getD (extK (fun x => decide (0 < x)) ps k) 0
  | 0, _, j, hj => absurd hj (by omega)
  | k + 1, hk, j, hj => by
    have ih := extK_spec_max ps k (by omega)
    unfold extK cmpR
    by_cases h1 : ps.getD (extK (fun x => decide (0 < x)) ps k) 0 < ps.getD k 0
    · have h2 : ¬ ps.getD k 0 < ps.getD (extK (fun x => decide (0 < x)) ps k) 0 := by grind
      have e : decide (0 < (if ps.getD k 0 < ps.getD (extK (fun x => decide (0 < x)) ps k) 0 then (-1 : Int) else if ps.getD (extK (fun x => decide (0 < x)) ps k) 0 < ps.getD k 0 then 1 else 0)) = true := by
        rw [if_neg h2, if_pos h1]; rfl
      rw [if_pos e]
      by_cases e : j = k
      · subst e; grind
      · have := ih j (by omega); grind
    · have e : decide (0 < (if ps.getD k 0 < ps.getD (extK (fun x => decide (0 < x)) ps k) 0 then (-1 : Int) else if ps.getD (extK (fun x => decide (0 < x)) ps k) 0 < ps.getD k 0 then 1 else 0)) = false := by
        rw [if_neg h1]; split <;> rfl
      rw [if_neg (by rw [e]; decide)]
      by_cases e : j = k
      · subst e; grind
      · exact ih j (by omega)
theorem total_append (a b : List Rat) : total (a ++ b) = total a + total b := by
  induction a with
  | nil => show total b = 0 + total b; grind
  | cons x a ih => show x + total (a ++ b) = (x + total a) + total b; rw [ih]; grind
theorem total_set (ps : List Rat) (k : Nat) (hk : k < ps.length) (v : Rat) : total (ps.set k v) = total ps - ps.getD k 0 + v := by
  induction ps generalizing k with
  | nil => simp at hk
  | cons x ps ih =>
    cases k with
    | zero => show v + total ps = (x + total ps) - x + v; grind
    | succ k =>
      have h := ih k (by simpa using hk)
      show x + total (ps.set k v) = (x + total ps) - ps.getD k 0 + v
      rw [h]; grind
theorem total_nonneg {ps : List Rat} (h : ∀ k, k < ps.length → 0 ≤ ps.getD k 0) (hz : total ps = 0) : ∀ k, k < ps.length → ps.getD k 0 = 0 := by
  have hpos : ∀ (qs : List Rat), (∀ k, k < qs.length → 0 ≤ qs.getD k 0) → 0 ≤ total qs := by
    intro qs
    induction qs with
    | nil => intro _; exact (by decide : (0 : Rat) ≤ 0)
    | cons x qs ih =>
      intro h
      have h0 : 0 ≤ x := h 0 (by simp)
      have h1 := ih (fun k hk => h (k + 1) (by simpa using hk))
      show 0 ≤ x + total qs; grind
  induction ps with
  | nil => intro k hk; simp at hk
  | cons x qs ih =>
    have h0 : 0 ≤ x := h 0 (by simp)
    have hq : ∀ k, k < qs.length → 0 ≤ qs.getD k 0 := fun k hk => h (k + 1) (by simpa using hk)
    have h1 := hpos qs hq
    have h2 : x + total qs = 0 := hz
    intro k hk
    cases k with
    | zero => show x = 0; grind
    | succ k => exact ih hq (by grind) k (by simpa using hk)
theorem total_nonpos {ps : List Rat} (h : ∀ k, k < ps.length → ps.getD k 0 ≤ 0) (hz : total ps = 0) : ∀ k, k < ps.length → ps.getD k 0 = 0 := by
  have hneg : ∀ (qs : List Rat), (∀ k, k < qs.length → qs.getD k 0 ≤ 0) → total qs ≤ 0 := by
    intro qs
    induction qs with
    | nil => intro _; exact (by decide : (0 : Rat) ≤ 0)
    | cons x qs ih =>
      intro h
      have h0 : x ≤ 0 := h 0 (by simp)
      have h1 := ih (fun k hk => h (k + 1) (by simpa using hk))
      show x + total qs ≤ 0; grind
  induction ps with
  | nil => intro k hk; simp at hk
  | cons x qs ih =>
    have h0 : x ≤ 0 := h 0 (by simp)
    have hq : ∀ k, k < qs.length → qs.getD k 0 ≤ 0 := fun k hk => h (k + 1) (by simpa using hk)
    have h1 := hneg qs hq
    have h2 : x + total qs = 0 := hz
    intro k hk
    cases k with
    | zero => show x = 0; grind
    | succ k => exact ih hq (by grind) k (by simpa using hk)
theorem Good.dlt {n : Nat} {ps : List Rat} (h : Good n ps) : dmin ps < n := by
  have := extK_lt (fun x => decide (x < 0)) ps n h.pos ps.length (by rw [h.len]; exact Nat.le_refl _); exact this
theorem Good.clt {n : Nat} {ps : List Rat} (h : Good n ps) : cmax ps < n := by
  have := extK_lt (fun x => decide (0 < x)) ps n h.pos ps.length (by rw [h.len]; exact Nat.le_refl _); exact this
theorem Good.dle {n : Nat} {ps : List Rat} (h : Good n ps) (j : Nat) (hj : j < n) : ps.getD (dmin ps) 0 ≤ ps.getD j 0 := extK_spec_min ps ps.length (Nat.le_refl _) j (by rw [h.len]; exact hj)
theorem Good.cle {n : Nat} {ps : List Rat} (h : Good n ps) (j : Nat) (hj : j < n) : ps.getD j 0 ≤ ps.getD (cmax ps) 0 := extK_spec_max ps ps.length (Nat.le_refl _) j (by rw [h.len]; exact hj)
theorem Good.done {n : Nat} {ps : List Rat} (h : Good n ps) (hd : ps.getD (dmin ps) 0 = 0) : ps.getD (cmax ps) 0 = 0 :=
  total_nonneg (fun k hk => by have := h.dle k (by rw [← h.len]; exact hk); rw [hd] at this; exact this) h.sum _ (by rw [h.len]; exact h.clt)
theorem Good.neg {n : Nat} {ps : List Rat} (h : Good n ps) (hd : ps.getD (dmin ps) 0 ≠ 0) : ps.getD (dmin ps) 0 < 0 ∧ 0 < ps.getD (cmax ps) 0 := by
  constructor
  · apply Classical.byContradiction; intro hn
    exact hd (total_nonneg (fun k hk => by have := h.dle k (by rw [← h.len]; exact hk); grind) h.sum _ (by rw [h.len]; exact h.dlt))
  · apply Classical.byContradiction; intro hn
    exact hd (total_nonpos (fun k hk => by have := h.cle k (by rw [← h.len]; exact hk); grind) h.sum _ (by rw [h.len]; exact h.dlt))
theorem Good.ne {n : Nat} {ps : List Rat} (h : Good n ps) (hd : ps.getD (dmin ps) 0 ≠ 0) : dmin ps ≠ cmax ps := fun e => by
  have := h.neg hd; rw [e] at this; grind
theorem getD_set_ne {ps : List Rat} {i j : Nat} (v : Rat) (h : i ≠ j) : (ps.set i v).getD j 0 = ps.getD j 0 := by
  simp [List.getD_eq_getElem?_getD, List.getElem?_set_ne h]
theorem getD_set_self {ps : List Rat} {i : Nat} (v : Rat) (h : i < ps.length) : (ps.set i v).getD i 0 = v := by
  simp [List.getD_eq_getElem?_getD, h]
theorem getD_mem {ps : List Rat} {i : Nat} (h : i < ps.length) : ps.getD i 0 ∈ ps := by
  have e : ps.getD i 0 = ps[i] := by simp [List.getD_eq_getElem?_getD, h]
  rw [e]; exact List.getElem_mem h
theorem Good.next {n : Nat} {ps : List Rat} (h : Good n ps) (hd : ps.getD (dmin ps) 0 ≠ 0) (hg : goes ps) : Good n (Nt.next ps) := by
  have hl := h.len
  have h1 := h.dlt
  have h2 := h.clt
  have hne := h.ne hd
  refine ⟨by unfold Nt.next; simp [hl], h.pos, ?_, ?_⟩
  · unfold Nt.next
    rw [total_set _ _ (by rw [List.length_set, hl]; exact h2), total_set _ _ (by rw [hl]; exact h1), getD_set_ne _ hne]
    have := h.sum; grind
  · intro r hr
    unfold Nt.next at hr
    rcases List.mem_or_eq_of_mem_set hr with hr | rfl
    · rcases List.mem_or_eq_of_mem_set hr with hr | rfl
      · exact h.fit r hr
      · exact hg.1
    · exact hg.2
theorem nz_set (ps : List Rat) (k : Nat) (hk : k < ps.length) (v : Rat) : nz (ps.set k v) + (if ps.getD k 0 = 0 then 0 else 1) = nz ps + (if v = 0 then 0 else 1) := by
  induction ps generalizing k with
  | nil => simp at hk
  | cons x ps ih =>
    cases k with
    | zero =>
      simp only [List.set_cons_zero, nz, List.countP_cons, List.getD_cons_zero]
      by_cases h1 : x = 0 <;> by_cases h2 : v = 0 <;> simp [h1, h2]
    | succ k =>
      have h := ih k (by simpa using hk)
      simp only [List.set_cons_succ, nz, List.countP_cons, List.getD_cons_succ] at h ⊢
      omega
theorem Good.less {n : Nat} {ps : List Rat} (h : Good n ps) (hd : ps.getD (dmin ps) 0 ≠ 0) : nz (Nt.next ps) < nz ps := by
  have hl := h.len
  have h1 := h.dlt
  have h2 := h.clt
  have hne := h.ne hd
  have ⟨n1, n2⟩ := h.neg hd
  have hc : ps.getD (cmax ps) 0 ≠ 0 := by grind
  have e1 := nz_set ps (dmin ps) (by rw [hl]; exact h1) (ps.getD (dmin ps) 0 + amtX ps)
  have e2 := nz_set (ps.set (dmin ps) (ps.getD (dmin ps) 0 + amtX ps)) (cmax ps) (by rw [List.length_set, hl]; exact h2) (ps.getD (cmax ps) 0 - amtX ps)
  rw [getD_set_ne _ hne] at e2
  unfold Nt.next
  rw [if_neg hd] at e1
  rw [if_neg hc] at e2
  by_cases hx : -(ps.getD (dmin ps) 0) < ps.getD (cmax ps) 0
  · have ha : ps.getD (dmin ps) 0 + amtX ps = 0 := by unfold amtX; rw [if_pos hx]; grind
    rw [if_pos ha] at e1
    split at e2 <;> omega
  · have ha : ps.getD (cmax ps) 0 - amtX ps = 0 := by unfold amtX; rw [if_neg hx]; grind
    rw [if_pos ha] at e2
    split at e1 <;> omega
theorem nz_le (ps : List Rat) : nz ps ≤ ps.length := List.countP_le_length
theorem fits_neg {r : Rat} (h : fits r = true) : fits (-r) = true := by
  rw [fits_iff] at h ⊢
  have e1 : (-r).num = -r.num := rfl
  have e2 : (-r).den = r.den := rfl
  rw [e1, e2, Int.natAbs_neg]; exact h
theorem Good.fitX {n : Nat} {ps : List Rat} (h : Good n ps) : fits (amtX ps) = true := by
  unfold amtX
  split
  · exact fits_neg (h.fit _ (getD_mem (by rw [h.len]; exact h.dlt)))
  · exact h.fit _ (getD_mem (by rw [h.len]; exact h.clt))
end Go.Proofs.YtdfokoapenhalaaDoor.Nt
end
section
namespace Go.Proofs.YtdfokoapenhalaaDoor.Nt
open Rt

/-- The sum of the first n values. -/
def upto (f : Nat → Rat) : Nat → Rat
  | 0 => 0
  | n + 1 => upto f n + f n
theorem upto_add (f g : Nat → Rat) : ∀ n, upto (fun k => f k + g k) n = upto f n + upto g n
  | 0 => by unfold upto; grind
  | n + 1 => by unfold upto; rw [upto_add f g n]; grind
theorem upto_zero (f : Nat → Rat) (h : ∀ k, f k = 0) : ∀ n, upto f n = 0
  | 0 => rfl
  | n + 1 => by unfold upto; rw [upto_zero f h n, h]; grind
theorem sg_pos (p : Int) (x : Debt) (a : Rat) : sg (sgnP p x) a = if p = x.t then a else if p = x.f then -a else 0 := by
  unfold sgnP sg
  by_cases h1 : p = x.t
  · simp [h1]
  · by_cases h2 : p = x.f
    · rw [if_neg h1, if_pos h2, if_neg h1, if_pos h2, if_neg (by decide), if_pos rfl]
    · rw [if_neg h1, if_neg h2, if_neg h1, if_neg h2, if_neg (by decide), if_neg (by decide)]
theorem upto_sg (x : Debt) (a : Rat) (hne : x.f ≠ x.t) (hf : 0 ≤ x.f) (ht : 0 ≤ x.t) : ∀ n : Nat, upto (fun k => sg (sgnP (k : Nat) x) a) n = (if x.t < n then a else 0) - (if x.f < n then a else 0)
  | 0 => by
    rw [if_neg (by omega), if_neg (by omega)]; unfold upto; grind
  | n + 1 => by
    unfold upto
    rw [upto_sg x a hne hf ht n, sg_pos]
    by_cases h1 : (n : Int) = x.t
    · rw [if_pos h1, if_neg (by omega : ¬ x.t < (n : Int)), if_pos (by omega : x.t < ((n + 1 : Nat) : Int))]
      by_cases h2 : x.f < (n : Int)
      · rw [if_pos h2, if_pos (by omega)]; grind
      · rw [if_neg h2, if_neg (by omega)]; grind
    · rw [if_neg h1]
      by_cases h3 : (n : Int) = x.f
      · rw [if_pos h3, if_neg (by omega : ¬ x.f < (n : Int)), if_pos (by omega : x.f < ((n + 1 : Nat) : Int))]
        by_cases h2 : x.t < (n : Int)
        · rw [if_pos h2, if_pos (by omega)]; grind
        · rw [if_neg h2, if_neg (by omega)]; grind
      · rw [if_neg h3]
        have e1 : (x.t < ((n + 1 : Nat) : Int)) = (x.t < (n : Int)) := by apply propext; omega
        have e2 : (x.f < ((n + 1 : Nat) : Int)) = (x.f < (n : Int)) := by apply propext; omega
        simp only [e1, e2]; grind
theorem upto_sumR (m : Int) : ∀ (l : List Debt), (∀ x ∈ l, okD m x = true) → ∀ n : Nat, m = n → upto (fun k => sumR (sgnP (k : Nat)) l) n = 0
  | [], _, n, _ => upto_zero _ (fun _ => rfl) n
  | x :: l, h, n, hm => by
    obtain ⟨h1, h2, h3, _⟩ := okD_iff.1 (h x (by simp))
    have e : (fun k : Nat => sumR (sgnP (k : Nat)) (x :: l)) = fun k : Nat => sg (sgnP (k : Nat) x) x.amt + sumR (sgnP (k : Nat)) l := rfl
    rw [e, upto_add, upto_sg x _ h3 h1.1 h2.1, upto_sumR m l (fun y hy => h y (by simp [hy])) n hm, if_pos (by omega), if_pos (by omega)]
    grind
theorem posL_total {l : List Debt} : ∀ {n : Nat} {ps : List Rat}, posL l n = some ps → total ps = upto (fun k => sumR (sgnP (k : Nat)) l) n
  | 0, ps, h => by injection h with h; subst h; rfl
  | n + 1, ps, h => by
    unfold posL at h
    cases h1 : posL l n with
    | none => rw [h1] at h; cases h
    | some qs =>
      rw [h1] at h
      cases h2 : pos l n with
      | none => rw [h2] at h; cases h
      | some r =>
        rw [h2] at h; injection h with h; subst h
        have e := sumO_exact h2
        rw [total_append, posL_total h1]
        show upto _ n + (r + 0) = upto _ n + sumR (sgnP (n : Nat)) l
        grind
theorem posL_fits {l : List Debt} : ∀ {n : Nat} {ps : List Rat}, posL l n = some ps → ∀ r ∈ ps, fits r = true
  | 0, ps, h => by injection h with h; subst h; intro r hr; cases hr
  | n + 1, ps, h => by
    unfold posL at h
    cases h1 : posL l n with
    | none => rw [h1] at h; cases h
    | some qs =>
      rw [h1] at h
      cases h2 : pos l n with
      | none => rw [h2] at h; cases h
      | some q =>
        rw [h2] at h; injection h with h; subst h
        intro r hr
        rcases List.mem_append.1 hr with hr | hr
        · exact posL_fits h1 r hr
        · have : r = q := by simpa using hr
          subst this; exact sumO_fits zero_fits h2
theorem good_init {l : List Debt} {n : Nat} {ps : List Rat} (hv : valid n l = true) (h : posL l n = some ps) : Good n ps := by
  obtain ⟨h1, _, h3⟩ := valid_iff.1 hv
  exact ⟨posL_len h, by omega, by rw [posL_total h]; exact upto_sumR n l h3 n rfl, posL_fits h⟩
end Go.Proofs.YtdfokoapenhalaaDoor.Nt
end
section
namespace Go.Proofs.YtdfokoapenhalaaDoor.Nt
open Rt

/-- What the grid holds for two parties in the end. -/
def gv (l : List Debt) (n i j : Nat) : Int × Int := if i < j ∧ j < n then (match pair l i j with | some r => pr r | none => (0, 0)) else (0, 0)
/-- The grid before the sum of a and b is taken. -/
def grid (l : List Debt) (n a b : Nat) : List (Int × Int) := (List.range 144).map fun k => if k / 12 < a ∨ k / 12 = a ∧ k % 12 < b then gv l n (k / 12) (k % 12) else (0, 0)
theorem grid_len (l : List Debt) (n a b : Nat) : (grid l n a b).length = 144 := by simp [grid]
theorem grid_get (l : List Debt) (n a b k : Nat) (hk : k < 144) : (grid l n a b)[k]? = some (if k / 12 < a ∨ k / 12 = a ∧ k % 12 < b then gv l n (k / 12) (k % 12) else (0, 0)) := by
  unfold grid; rw [List.getElem?_map, List.getElem?_range hk]; rfl
theorem grid_start (l : List Debt) (n : Nat) : List.replicate 144 ((0 : Int), (0 : Int)) = grid l n 0 1 := by
  apply List.ext_getElem?
  intro k
  by_cases hk : k < 144
  · rw [grid_get _ _ _ _ _ hk, List.getElem?_replicate, if_pos hk]
    split
    · unfold gv; rw [if_neg (by omega)]
    · rfl
  · rw [List.getElem?_eq_none (by simp; omega), List.getElem?_eq_none (by rw [grid_len]; omega)]
theorem grid_row (l : List Debt) (n a b : Nat) (hb : n ≤ b) : grid l n a b = grid l n (a + 1) (a + 2) := by
  apply List.ext_getElem?
  intro k
  by_cases hk : k < 144
  · rw [grid_get _ _ _ _ _ hk, grid_get _ _ _ _ _ hk]
    congr 1
    by_cases h1 : k / 12 < a ∨ k / 12 = a ∧ k % 12 < b
    · rw [if_pos h1]
      by_cases h2 : k / 12 < a + 1 ∨ k / 12 = a + 1 ∧ k % 12 < a + 2
      · rw [if_pos h2]
      · omega
    · rw [if_neg h1]
      by_cases h2 : k / 12 < a + 1 ∨ k / 12 = a + 1 ∧ k % 12 < a + 2
      · rw [if_pos h2]; unfold gv; rw [if_neg (by omega)]
      · rw [if_neg h2]
  · rw [List.getElem?_eq_none (by rw [grid_len]; omega), List.getElem?_eq_none (by rw [grid_len]; omega)]
theorem grid_set (l : List Debt) (n a b : Nat) (r : Rat) (hab : a < b) (hb : b < n) (hn : n ≤ 12) (hr : pair l a b = some r) : (grid l n a b).set (a * 12 + b) (pr r) = grid l n a (b + 1) := by
  have e1 : (a * 12 + b) / 12 = a := by omega
  have e2 : (a * 12 + b) % 12 = b := by omega
  apply List.ext_getElem?
  intro k
  by_cases hk : k < 144
  · by_cases hkk : a * 12 + b = k
    · subst hkk
      rw [List.getElem?_set_self (by rw [grid_len]; exact hk), grid_get _ _ _ _ _ hk, e1, e2, if_pos (by omega)]
      unfold gv; rw [if_pos ⟨hab, hb⟩, hr]
    · rw [List.getElem?_set_ne hkk, grid_get _ _ _ _ _ hk, grid_get _ _ _ _ _ hk]
      congr 1
      by_cases h1 : k / 12 < a ∨ k / 12 = a ∧ k % 12 < b
      · rw [if_pos h1, if_pos (by omega)]
      · rw [if_neg h1, if_neg (by omega)]
  · rw [List.getElem?_eq_none (by rw [List.length_set, grid_len]; omega), List.getElem?_eq_none (by rw [grid_len]; omega)]
/-- The debt that two parties are left with. -/
def dOf (i j : Nat) (q : Int × Int) : List Debt := if 0 < q.1 then [⟨i, j, q.1, q.2⟩] else if q.1 < 0 then [⟨j, i, -q.1, q.2⟩] else []
/-- The debts of the first k places of the grid. -/
def outK (l : List Debt) (n k : Nat) : List Debt := (List.range k).flatMap fun k => dOf (k / 12) (k % 12) (gv l n (k / 12) (k % 12))
theorem outK_next (l : List Debt) (n k : Nat) : outK l n (k + 1) = outK l n k ++ dOf (k / 12) (k % 12) (gv l n (k / 12) (k % 12)) := by
  unfold outK; rw [List.range_succ, List.flatMap_append]; simp
theorem outK_len (l : List Debt) (n : Nat) : ∀ k, (outK l n k).length ≤ k
  | 0 => Nat.le_refl 0
  | k + 1 => by
    have := outK_len l n k
    have hd : ∀ q, (dOf (k / 12) (k % 12) q).length ≤ 1 := fun q => by unfold dOf; split <;> (try split) <;> simp
    rw [outK_next, List.length_append]
    have := hd (gv l n (k / 12) (k % 12))
    omega
/-- Are all sums in range? -/
def pairsB (l : List Debt) (n : Nat) : Bool := (List.range n).all fun a => (List.range n).all fun b => !(decide (a < b)) || (pair l a b).isSome
/-- What the debts among n parties are netted to, each two parties by themselves. -/
def pairsO (l : List Debt) (n : Nat) : Option (List Debt) := if pairsB l n = true then some (outK l n 144) else none
theorem pairsB_iff {l : List Debt} {n : Nat} : pairsB l n = true ↔ ∀ a b, a < b → b < n → (pair l a b).isSome = true := by
  unfold pairsB
  simp only [List.all_eq_true, List.mem_range, Bool.or_eq_true, Bool.not_eq_true', decide_eq_false_iff_not]
  constructor
  · intro h a b hab hb
    rcases h a (by omega) b hb with h | h
    · exact absurd hab h
    · exact h
  · intro h a _ b hb
    by_cases hab : a < b
    · exact .inr (h a b hab hb)
    · exact .inl hab
theorem pairsO_none {l : List Debt} {n a b : Nat} (hab : a < b) (hb : b < n) (h : pair l a b = none) : pairsO l n = none := by
  unfold pairsO; rw [if_neg]; intro hp
  have := pairsB_iff.1 hp a b hab hb; rw [h] at this; cases this
end Go.Proofs.YtdfokoapenhalaaDoor.Nt
end
section
namespace Go.Proofs.YtdfokoapenhalaaDoor.Nt
open Rt

/-- Each debt of a settling leads from a party with less than nothing to one with more than nothing. -/
def Ways (n : Nat) (ps : List Rat) (x : Debt) : Prop := ∃ i j : Nat, x.f = i ∧ x.t = j ∧ i < n ∧ j < n ∧ ps.getD i 0 < 0 ∧ 0 < ps.getD j 0
theorem nz_two {n : Nat} {ps : List Rat} (h : Good n ps) (hd : ps.getD (dmin ps) 0 ≠ 0) : 2 ≤ nz ps := by
  have hl := h.len
  have h1 := h.dlt
  have h2 := h.clt
  have hne := h.ne hd
  have ⟨n1, n2⟩ := h.neg hd
  have hc : ps.getD (cmax ps) 0 ≠ 0 := by grind
  have e1 := nz_set ps (dmin ps) (by rw [hl]; exact h1) 0
  have e2 := nz_set (ps.set (dmin ps) 0) (cmax ps) (by rw [List.length_set, hl]; exact h2) 0
  rw [getD_set_ne _ hne, if_neg hc, if_pos rfl] at e2
  rw [if_neg hd, if_pos rfl] at e1
  omega
theorem amtX_le (ps : List Rat) : amtX ps ≤ -(ps.getD (dmin ps) 0) ∧ amtX ps ≤ ps.getD (cmax ps) 0 := by
  unfold amtX
  split <;> constructor <;> grind
theorem settle_spec {n : Nat} : ∀ (f : Nat) (ps : List Rat) (out : List Debt), Good n ps → settle f ps = some out → (out.length < nz ps ∨ out = [] ∧ nz ps = 0) ∧ ∀ x ∈ out, Ways n ps x
  | 0, ps, out, _, h => by cases h
  | f + 1, ps, out, hG, h => by
    unfold settle at h
    by_cases hd : ps.getD (dmin ps) 0 = 0
    · rw [if_pos hd] at h
      injection h with h; subst h
      refine ⟨.inr ⟨rfl, ?_⟩, fun x hx => by cases hx⟩
      have hz := total_nonneg (fun k hk => by have := hG.dle k (by rw [← hG.len]; exact hk); rw [hd] at this; exact this) hG.sum
      unfold nz
      rw [List.countP_eq_zero]
      intro r hr
      obtain ⟨k, hk⟩ := List.getElem?_of_mem hr
      have hlt := (List.getElem?_eq_some_iff.1 hk).1
      have := hz k hlt
      simp only [List.getD_eq_getElem?_getD, hk, Option.getD_some] at this
      simp [this]
    · rw [if_neg hd] at h
      by_cases hg : goes ps
      · rw [if_pos hg] at h
        cases hs : settle f (next ps) with
        | none => rw [hs] at h; cases h
        | some rest =>
          rw [hs] at h
          have ho : out = pay ps :: rest := by simpa using h.symm
          subst ho
          have hGn := hG.next hd hg
          obtain ⟨h1, h2⟩ := settle_spec f (next ps) rest hGn hs
          have hless := hG.less hd
          have htwo := nz_two hG hd
          have ⟨n1, n2⟩ := hG.neg hd
          have hne := hG.ne hd
          refine ⟨.inl ?_, fun x hx => ?_⟩
          · rcases h1 with h1 | ⟨rfl, h1⟩
            · simp only [List.length_cons]; omega
            · simp only [List.length_cons, List.length_nil]; omega
          · rcases List.mem_cons.1 hx with rfl | hx
            · exact ⟨_, _, rfl, rfl, hG.dlt, hG.clt, n1, n2⟩
            · obtain ⟨i, j, e1, e2, l1, l2, g1, g2⟩ := h2 x hx
              refine ⟨i, j, e1, e2, l1, l2, ?_, ?_⟩
              · unfold next at g1
                by_cases hic : cmax ps = i
                · subst hic
                  rw [getD_set_self _ (by rw [List.length_set, hG.len]; exact hG.clt)] at g1
                  have := (amtX_le ps).2; grind
                · rw [getD_set_ne _ hic] at g1
                  by_cases hid : dmin ps = i
                  · subst hid; exact n1
                  · rw [getD_set_ne _ hid] at g1; exact g1
              · unfold next at g2
                by_cases hic : cmax ps = j
                · subst hic; exact n2
                · rw [getD_set_ne _ hic] at g2
                  by_cases hid : dmin ps = j
                  · subst hid
                    rw [getD_set_self _ (by rw [hG.len]; exact hG.dlt)] at g2
                    have := (amtX_le ps).1; grind
                  · rw [getD_set_ne _ hid] at g2; exact g2
      · rw [if_neg hg] at h; cases h
theorem net_spec {l : List Debt} {n : Nat} {ps : List Rat} {out : List Debt} (hv : valid n l = true) (hp : posL l n = some ps) (h : netO l n = some out) : (out.length < nz ps ∨ out = [] ∧ nz ps = 0) ∧ ∀ x ∈ out, Ways n ps x := by
  unfold netO at h
  rw [hp] at h
  exact settle_spec _ _ _ (good_init hv hp) h
theorem net_apart {l : List Debt} {n : Nat} {ps : List Rat} {out : List Debt} (hv : valid n l = true) (hp : posL l n = some ps) (h : netO l n = some out) {x y : Debt} (hx : x ∈ out) (hy : y ∈ out) : x.f ≠ y.t := by
  obtain ⟨_, hw⟩ := net_spec hv hp h
  obtain ⟨i, j, e1, _, _, _, g1, _⟩ := hw x hx
  obtain ⟨i', j', _, e2, _, _, _, g2⟩ := hw y hy
  intro e
  have : i = j' := by omega
  subst this; grind
/-- The place of the two parties of a debt. -/
def key (x : Debt) : Int := (if x.t < x.f then x.t else x.f) * 12 + (if x.t > x.f then x.t else x.f)
def Keyed (x : Debt) : Prop := 0 ≤ x.f ∧ x.f < 12 ∧ 0 ≤ x.t ∧ x.t < 12 ∧ x.f ≠ x.t
theorem dOf_key (l : List Debt) (n k : Nat) (hn : n ≤ 12) : ∀ x ∈ dOf (k / 12) (k % 12) (gv l n (k / 12) (k % 12)), key x = k ∧ Keyed x := by
  intro x hx
  by_cases h : k / 12 < k % 12 ∧ k % 12 < n
  · generalize gv l n (k / 12) (k % 12) = q at hx
    obtain ⟨h1, h2⟩ := h
    unfold dOf at hx
    split at hx
    · have : x = ⟨((k / 12 : Nat) : Int), ((k % 12 : Nat) : Int), q.1, q.2⟩ := by simpa using hx
      subst this
      unfold key Keyed
      simp only
      rw [if_neg (by omega), if_pos (by omega)]
      omega
    · split at hx
      · have : x = ⟨((k % 12 : Nat) : Int), ((k / 12 : Nat) : Int), -q.1, q.2⟩ := by simpa using hx
        subst this
        unfold key Keyed
        simp only
        rw [if_pos (by omega), if_neg (by omega)]
        omega
      · cases hx
  · unfold gv at hx
    rw [if_neg h] at hx
    unfold dOf at hx
    simp at hx
theorem outK_key (l : List Debt) (n : Nat) (hn : n ≤ 12) : ∀ k, (∀ x ∈ outK l n k, key x < k ∧ Keyed x) ∧ (outK l n k).Pairwise (fun x y => key x < key y)
  | 0 => ⟨fun x hx => by simp [outK] at hx, by simp [outK]⟩
  | k + 1 => by
    obtain ⟨h1, h2⟩ := outK_key l n hn k
    have hd := dOf_key l n k hn
    rw [outK_next]
    refine ⟨fun x hx => ?_, List.pairwise_append.2 ⟨h2, ?_, fun x hx y hy => ?_⟩⟩
    · rcases List.mem_append.1 hx with hx | hx
      · exact ⟨by have := (h1 x hx).1; omega, (h1 x hx).2⟩
      · exact ⟨by have := (hd x hx).1; omega, (hd x hx).2⟩
    · have : ∀ q, (dOf (k / 12) (k % 12) q).Pairwise (fun x y => key x < key y) := fun q => by
        unfold dOf
        split
        · simp
        · split <;> simp
      exact this _
    · rw [(hd y hy).1]; exact (h1 x hx).1
theorem pairs_key {l : List Debt} {n : Nat} {out : List Debt} (hn : n ≤ 12) (h : pairsO l n = some out) : (∀ x ∈ out, Keyed x) ∧ out.Pairwise (fun x y => key x < key y) := by
  unfold pairsO at h
  split at h
  · injection h with h; subst h
    obtain ⟨h1, h2⟩ := outK_key l n hn 144
    exact ⟨fun x hx => (h1 x hx).2, h2⟩
  · cases h
theorem pairs_len {l : List Debt} {n : Nat} {out : List Debt} (h : pairsO l n = some out) : out.length ≤ 144 := by
  unfold pairsO at h
  split at h
  · injection h with h; subst h; exact outK_len l n 144
  · cases h
theorem net_len {l : List Debt} {n : Nat} {ps : List Rat} {out : List Debt} (hv : valid n l = true) (hp : posL l n = some ps) (h : netO l n = some out) : out.length ≤ 12 := by
  obtain ⟨h1, _⟩ := net_spec hv hp h
  have := nz_le ps
  have h2 := posL_len hp
  have h3 := (valid_iff.1 hv).1
  rcases h1 with h1 | ⟨rfl, _⟩
  · omega
  · simp
end Go.Proofs.YtdfokoapenhalaaDoor.Nt
end
section
namespace Go.Proofs.YtdfokoapenhalaaDoor.Nt
open Rt

theorem pay_amt (ps : List Rat) : (pay ps).amt = amtX ps := by unfold Debt.amt pay; exact val_rat _
theorem settle_pos {n : Nat} : ∀ (f : Nat) (ps : List Rat) (out : List Debt), Good n ps → settle f ps = some out → ∀ p : Nat, p < n → sumR (sgnP p) out = ps.getD p 0
  | 0, ps, out, _, h, p, hp => by cases h
  | f + 1, ps, out, hG, h, p, hp => by
    unfold settle at h
    by_cases hd : ps.getD (dmin ps) 0 = 0
    · rw [if_pos hd] at h
      injection h with h; subst h
      have hz := total_nonneg (fun k hk => by have := hG.dle k (by rw [← hG.len]; exact hk); rw [hd] at this; exact this) hG.sum
      exact (hz p (by rw [hG.len]; exact hp)).symm
    · rw [if_neg hd] at h
      by_cases hg : goes ps
      · rw [if_pos hg] at h
        cases hs : settle f (next ps) with
        | none => rw [hs] at h; cases h
        | some rest =>
          rw [hs] at h
          have ho : out = pay ps :: rest := by simpa using h.symm
          subst ho
          have ih := settle_pos f (next ps) rest (hG.next hd hg) hs p hp
          have hne := hG.ne hd
          unfold sumR
          rw [ih, pay_amt]
          have e1 : (pay ps).t = (cmax ps : Nat) := rfl
          have e2 : (pay ps).f = (dmin ps : Nat) := rfl
          rw [sg_pos, e1, e2]
          unfold next
          by_cases hc : cmax ps = p
          · subst hc
            rw [if_pos rfl, getD_set_self _ (by rw [List.length_set, hG.len]; exact hG.clt)]; grind
          · rw [if_neg (by omega), getD_set_ne _ hc]
            by_cases hdp : dmin ps = p
            · subst hdp
              rw [if_pos rfl, getD_set_self _ (by rw [hG.len]; exact hG.dlt)]; grind
            · rw [if_neg (by omega), getD_set_ne _ hdp]; grind
      · rw [if_neg hg] at h; cases h
theorem settle_amt {n : Nat} : ∀ (f : Nat) (ps : List Rat) (out : List Debt), Good n ps → settle f ps = some out → ∀ x ∈ out, Rt.ok x.n x.d = true ∧ 0 < x.n
  | 0, ps, out, _, h, _, _ => by cases h
  | f + 1, ps, out, hG, h, x, hx => by
    unfold settle at h
    by_cases hd : ps.getD (dmin ps) 0 = 0
    · rw [if_pos hd] at h
      injection h with h; subst h; cases hx
    · rw [if_neg hd] at h
      by_cases hg : goes ps
      · rw [if_pos hg] at h
        cases hs : settle f (next ps) with
        | none => rw [hs] at h; cases h
        | some rest =>
          rw [hs] at h
          have ho : out = pay ps :: rest := by simpa using h.symm
          subst ho
          rcases List.mem_cons.1 hx with rfl | hx
          · refine ⟨ok_rat hG.fitX, ?_⟩
            have ⟨n1, n2⟩ := hG.neg hd
            have hp : 0 < amtX ps := by unfold amtX; split <;> grind
            have hq := hp
            rw [Rat.lt_iff] at hq
            simpa [pay] using hq
          · exact settle_amt f (next ps) rest (hG.next hd hg) hs x hx
      · rw [if_neg hg] at h; cases h
theorem net_valid {l : List Debt} {n : Nat} {ps : List Rat} {out : List Debt} (hv : valid n l = true) (hp : posL l n = some ps) (h : netO l n = some out) : valid n out = true := by
  have hlen := net_len hv hp h
  obtain ⟨_, hw⟩ := net_spec hv hp h
  have h0 := (valid_iff.1 hv).1
  unfold netO at h
  rw [hp] at h
  have ha := settle_amt _ _ _ (good_init hv hp) h
  refine valid_iff.2 ⟨h0, by omega, fun x hx => okD_iff.2 ?_⟩
  obtain ⟨i, j, e1, e2, l1, l2, g1, g2⟩ := hw x hx
  refine ⟨by omega, by omega, fun e => ?_, (ha x hx).1, (ha x hx).2⟩
  have : i = j := by omega
  subst this; grind
theorem posL_get {l : List Debt} : ∀ {n : Nat} {ps : List Rat}, posL l n = some ps → ∀ p : Nat, p < n → pos l p = some (ps.getD p 0)
  | 0, ps, h, p, hp => absurd hp (by omega)
  | n + 1, ps, h, p, hp => by
    unfold posL at h
    cases h1 : posL l n with
    | none => rw [h1] at h; cases h
    | some qs =>
      rw [h1] at h
      cases h2 : pos l n with
      | none => rw [h2] at h; cases h
      | some r =>
        rw [h2] at h; injection h with h; subst h
        have hl := posL_len h1
        by_cases e : p = n
        · subst e
          rw [h2]; congr 1
          rw [List.getD_eq_getElem?_getD, List.getElem?_append_right (by omega), hl]; simp
        · rw [posL_get h1 p (by omega)]; congr 1
          rw [List.getD_eq_getElem?_getD, List.getD_eq_getElem?_getD, List.getElem?_append_left (by omega)]
/-- Two lists of debts with the same exact positions have the same positions, unless one is out of range. -/
theorem posL_same {l l' : List Debt} {n : Nat} {ps ps' : List Rat} (h : posL l n = some ps) (h' : posL l' n = some ps') (he : ∀ p : Nat, p < n → sumR (sgnP p) l = sumR (sgnP p) l') : ps = ps' := by
  apply List.ext_getElem?
  intro p
  have e1 := posL_len h
  have e2 := posL_len h'
  by_cases hp : p < n
  · have a1 := sumO_exact (posL_get h p hp)
    have a2 := sumO_exact (posL_get h' p hp)
    have := he p hp
    rw [List.getElem?_eq_getElem (by omega), List.getElem?_eq_getElem (by omega)]
    congr 1
    have b1 : ps.getD p 0 = ps[p]'(by omega) := by simp [List.getD_eq_getElem?_getD, (by omega : p < ps.length)]
    have b2 : ps'.getD p 0 = ps'[p]'(by omega) := by simp [List.getD_eq_getElem?_getD, (by omega : p < ps'.length)]
    rw [← b1, ← b2, a1, a2, this]
  · rw [List.getElem?_eq_none (by omega), List.getElem?_eq_none (by omega)]
theorem pos_exact {l : List Debt} {n : Nat} {ps : List Rat} (h : posL l n = some ps) (p : Nat) (hp : p < n) : sumR (sgnP p) l = ps.getD p 0 := by
  have := sumO_exact (posL_get h p hp); grind
theorem net_pos {l : List Debt} {n : Nat} {ps ps' : List Rat} {out : List Debt} (hv : valid n l = true) (hp : posL l n = some ps) (h : netO l n = some out) (h' : posL out n = some ps') : ps' = ps := by
  have h2 := h
  unfold netO at h2
  rw [hp] at h2
  have hs := settle_pos _ _ _ (good_init hv hp) h2
  exact posL_same h' hp (fun p hpn => by rw [hs p hpn, pos_exact hp p hpn])
theorem net_again {l : List Debt} {n : Nat} {ps : List Rat} {out : List Debt} (hv : valid n l = true) (hp : posL l n = some ps) (h : netO l n = some out) : netO out n = none ∨ netO out n = some out := by
  cases h' : posL out n with
  | none => left; unfold netO; rw [h']; rfl
  | some ps' =>
    right
    have := net_pos hv hp h h'
    subst this
    unfold netO at h ⊢
    rw [hp] at h
    rw [h']; exact h
/-! pairs of pairs -/
theorem sumO_append {s : Debt → Int} : ∀ (l1 l2 : List Debt) (r : Rat), sumO s (l1 ++ l2) r = (sumO s l1 r).bind (sumO s l2)
  | [], l2, r => rfl
  | x :: l1, l2, r => by
    rw [List.cons_append]
    unfold sumO
    split
    · exact sumO_append l1 l2 _
    · rfl
theorem sgnQ_val (i j a b : Int) (n d : Int) (h1 : i < j) (h2 : a < b) : sgnQ i j ⟨a, b, n, d⟩ = (if a = i ∧ b = j then 1 else 0) ∧ sgnQ i j ⟨b, a, n, d⟩ = (if a = i ∧ b = j then -1 else 0) := by
  unfold sgnQ
  constructor
  · simp only
    by_cases h : a = i ∧ b = j
    · rw [if_pos h, if_pos h]
    · rw [if_neg h, if_neg h, if_neg (by omega)]
  · simp only
    rw [if_neg (by omega)]
    by_cases h : a = i ∧ b = j
    · rw [if_pos (by omega), if_pos h]
    · rw [if_neg (by omega), if_neg h]
theorem dOf_sum (i j a b : Nat) (h1 : i < j) (h2 : a < b) (v r : Rat) (hr : fits r = true) (hf : a = i ∧ b = j → fits (r + v) = true) : sumO (sgnQ i j) (dOf a b (pr v)) r = some (if a = i ∧ b = j then r + v else r) := by
  have hq := fun n d => sgnQ_val (i : Int) j a b n d (by omega) (by omega)
  have hc : ((a : Int) = i ∧ (b : Int) = j) ↔ (a = i ∧ b = j) := by omega
  unfold dOf
  have hsingle : ∀ (x : Debt) (u : Rat), sg (sgnQ i j x) x.amt = u → fits (r + u) = true → sumO (sgnQ i j) [x] r = some (r + u) := fun x u e hu => by
    unfold sumO; rw [e, if_pos hu]; rfl
  by_cases hp : 0 < v.num
  · rw [if_pos hp]
    by_cases hab : a = i ∧ b = j
    · rw [if_pos hab, hsingle _ v ?_ (hf hab)]
      rw [(hq _ _).1, if_pos (hc.2 hab)]
      unfold sg Debt.amt; rw [if_pos rfl]; exact val_rat v
    · rw [if_neg hab, hsingle _ 0 ?_ (by rw [show r + 0 = r by grind]; exact hr)]
      · congr 1; grind
      · rw [(hq _ _).1, if_neg (fun e => hab (hc.1 e))]; unfold sg; rw [if_neg (by decide), if_neg (by decide)]
  · rw [if_neg hp]
    by_cases hn : v.num < 0
    · rw [if_pos hn]
      by_cases hab : a = i ∧ b = j
      · rw [if_pos hab, hsingle _ v ?_ (hf hab)]
        rw [(hq _ _).2, if_pos (hc.2 hab)]
        unfold sg Debt.amt
        rw [if_neg (by decide), if_pos rfl]
        show -(val (-v.num) v.den) = v
        rw [val_neg, val_rat]; grind
      · rw [if_neg hab, hsingle _ 0 ?_ (by rw [show r + 0 = r by grind]; exact hr)]
        · congr 1; grind
        · rw [(hq _ _).2, if_neg (fun e => hab (hc.1 e))]; unfold sg; rw [if_neg (by decide), if_neg (by decide)]
    · rw [if_neg hn]
      have hv0 : v = 0 := Rat.num_eq_zero.1 (by omega)
      subst hv0
      show some r = _
      congr 1
      split <;> grind
theorem gv_some {l : List Debt} {n i j : Nat} {v : Rat} (h1 : i < j) (h2 : j < n) (h : pair l i j = some v) : gv l n i j = pr v := by
  unfold gv; rw [if_pos ⟨h1, h2⟩, h]
theorem gv_out {l : List Debt} {n i j : Nat} (h : ¬ (i < j ∧ j < n)) : gv l n i j = (0, 0) := by unfold gv; rw [if_neg h]
theorem outK_sum {l : List Debt} {n : Nat} (hn : n ≤ 12) (hB : pairsB l n = true) (i j : Nat) (h1 : i < j) (h2 : j < n) (v : Rat) (hv : pair l i j = some v) : ∀ k, k ≤ 144 → sumO (sgnQ i j) (outK l n k) 0 = some (if i * 12 + j < k then v else 0)
  | 0, _ => by rw [if_neg (by omega)]; rfl
  | k + 1, hk => by
    have ih := outK_sum hn hB i j h1 h2 v hv k (by omega)
    have hvf : fits v = true := sumO_fits zero_fits hv
    rw [outK_next, sumO_append, ih]
    show sumO (sgnQ i j) (dOf (k / 12) (k % 12) (gv l n (k / 12) (k % 12))) _ = _
    by_cases hab : k / 12 < k % 12 ∧ k % 12 < n
    · obtain ⟨u, hu⟩ : ∃ u, pair l (k / 12 : Nat) (k % 12 : Nat) = some u := Option.isSome_iff_exists.1 (pairsB_iff.1 hB _ _ hab.1 hab.2)
      rw [gv_some hab.1 hab.2 hu]
      by_cases he : k / 12 = i ∧ k % 12 = j
      · have huv : u = v := by
          obtain ⟨rfl, rfl⟩ := he
          rw [hu] at hv; injection hv
        subst huv
        rw [if_neg (by omega : ¬ i * 12 + j < k), dOf_sum i j _ _ h1 hab.1 u 0 zero_fits (fun _ => by rw [show (0 : Rat) + u = u by grind]; exact hvf), if_pos he, if_pos (by omega)]
        congr 1; grind
      · have hlt : (i * 12 + j < k + 1) = (i * 12 + j < k) := by apply propext; omega
        have hfit : fits (if i * 12 + j < k then v else 0) = true := by split; exact hvf; exact zero_fits
        rw [dOf_sum i j _ _ h1 hab.1 u _ hfit (fun e => absurd e he), if_neg he]
        simp only [hlt]
    · rw [gv_out hab]
      have hlt : (i * 12 + j < k + 1) = (i * 12 + j < k) := by apply propext; omega
      simp only [hlt]
      rfl
theorem pairs_again {l : List Debt} {n : Nat} {out : List Debt} (hn : n ≤ 12) (h : pairsO l n = some out) : pairsO out n = some out := by
  unfold pairsO at h
  split at h
  · rename_i hB
    injection h with h
    have hpair : ∀ i j : Nat, i < j → j < n → pair out i j = pair l i j := fun i j h1 h2 => by
      obtain ⟨v, hv⟩ : ∃ v, pair l i j = some v := Option.isSome_iff_exists.1 (pairsB_iff.1 hB i j h1 h2)
      have := outK_sum hn hB i j h1 h2 v hv 144 (Nat.le_refl _)
      rw [if_pos (by omega), h] at this
      rw [hv]; exact this
    have hB2 : pairsB out n = true := pairsB_iff.2 fun a b h1 h2 => by rw [hpair a b h1 h2]; exact pairsB_iff.1 hB a b h1 h2
    unfold pairsO
    rw [if_pos hB2]
    congr 1
    rw [← h]
    unfold outK
    congr 1
    funext k
    have hgv : gv (outK l n 144) n (k / 12) (k % 12) = gv l n (k / 12) (k % 12) := by
      unfold gv
      by_cases hab : k / 12 < k % 12 ∧ k % 12 < n
      · rw [if_pos hab, if_pos hab, h, hpair _ _ hab.1 hab.2]
      · rw [if_neg hab, if_neg hab]
    unfold outK at hgv
    rw [hgv]
  · cases h
theorem pairs_valid {l : List Debt} {n : Nat} {out : List Debt} (hv : valid n l = true) (h : pairsO l n = some out) : valid n out = true := by
  have h0 := (valid_iff.1 hv).1
  have hlen := pairs_len h
  unfold pairsO at h
  split at h
  · rename_i hB
    injection h with h; subst h
    refine valid_iff.2 ⟨h0, by omega, fun x hx => ?_⟩
    unfold outK at hx
    obtain ⟨k, _, hx⟩ := List.mem_flatMap.1 hx
    by_cases hab : k / 12 < k % 12 ∧ k % 12 < n
    · obtain ⟨u, hu⟩ : ∃ u, pair l (k / 12 : Nat) (k % 12 : Nat) = some u := Option.isSome_iff_exists.1 (pairsB_iff.1 hB _ _ hab.1 hab.2)
      rw [gv_some hab.1 hab.2 hu] at hx
      have huf : fits u = true := sumO_fits zero_fits hu
      unfold dOf at hx
      split at hx
      · have : x = ⟨((k / 12 : Nat) : Int), ((k % 12 : Nat) : Int), u.num, (u.den : Int)⟩ := by simpa using hx
        subst this
        exact okD_iff.2 ⟨by simp only; omega, by simp only; omega, by simp only; omega, ok_rat huf, by assumption⟩
      · split at hx
        · have : x = ⟨((k % 12 : Nat) : Int), ((k / 12 : Nat) : Int), -u.num, (u.den : Int)⟩ := by simpa using hx
          subst this
          exact okD_iff.2 ⟨by simp only; omega, by simp only; omega, by simp only; omega, by rw [ok_neg]; exact ok_rat huf, by simp only at *; omega⟩
        · cases hx
    · rw [gv_out hab] at hx
      unfold dOf at hx
      simp at hx
  · cases h
end Go.Proofs.YtdfokoapenhalaaDoor.Nt
end
