/- Plain arithmetic of business days; no program in sight. -/
import Derived.Test.YthnjbcdfcpchnaaDoorDateM
namespace Go.Proofs.YthnjbcdfcpchnaaDoor.Biz

/-- The days before a day whose weekday is one of the first k that are not off. -/
def wsum (wk : Nat → Bool) (d : Int) : Nat → Int
  | 0 => 0
  | k + 1 => wsum wk d k + if wk k then 0 else (d + 6 - k) / 7
def offH (wk : Nat → Bool) (d h : Int) : Bool := decide (h < d) && !wk (h % 7).toNat
def hcnt (wk : Nat → Bool) (d : Int) : List Int → Int
  | [] => 0
  | h :: l => (if offH wk d h then 1 else 0) + hcnt wk d l
/-- The business days before a day. -/
def A (wk : Nat → Bool) (hs : List Int) (d : Int) : Int := wsum wk d 7 - hcnt wk d hs
def biz (wk : Nat → Bool) (hs : List Int) (d : Int) : Bool := !wk (d % 7).toNat && !hs.contains d
/-- Increasing numbers from some number on. -/
def incr : Int → List Int → Bool
  | _, [] => true
  | last, h :: l => decide (last < h) && decide (h ≤ 73048) && incr h l
def allOff (wk : Nat → Bool) : Bool := wk 0 && wk 1 && wk 2 && wk 3 && wk 4 && wk 5 && wk 6
def valid (wk : Nat → Bool) (hs : List Int) : Bool := !allOff wk && decide (hs.length ≤ 400) && incr (-1) hs

theorem valid_parts {wk : Nat → Bool} {hs : List Int} (h : valid wk hs = true) : incr (-1) hs = true ∧ hs.length ≤ 400 := by
  unfold valid at h; simp at h; exact ⟨h.2, h.1.2⟩
theorem wsum_bd (wk : Nat → Bool) (d : Int) (h0 : 0 ≤ d) (h1 : d ≤ 100000) : ∀ k : Nat, k ≤ 7 → 0 ≤ wsum wk d k ∧ wsum wk d k ≤ 20000 * k
  | 0, _ => by simp [wsum]
  | k + 1, hk => by
    have := wsum_bd wk d h0 h1 k (by omega)
    unfold wsum
    split <;> omega
theorem hcnt_bd (wk : Nat → Bool) (d : Int) : ∀ l : List Int, 0 ≤ hcnt wk d l ∧ hcnt wk d l ≤ l.length
  | [] => by simp [hcnt]
  | h :: l => by
    have := hcnt_bd wk d l
    unfold hcnt
    rw [List.length_cons]
    split <;> omega
theorem hcnt_snoc (wk : Nat → Bool) (d : Int) (l : List Int) (h : Int) : hcnt wk d (l ++ [h]) = hcnt wk d l + if offH wk d h then 1 else 0 := by
  induction l with
  | nil => simp [hcnt]
  | cons x l ih => rw [List.cons_append, hcnt, ih, hcnt]; omega
theorem incr_le {last : Int} {l : List Int} (h : incr last l = true) : ∀ x ∈ l, last < x ∧ x ≤ 73048 := by
  induction l generalizing last with
  | nil => simp
  | cons y l ih =>
    unfold incr at h
    simp only [Bool.and_eq_true, decide_eq_true_eq] at h
    intro x hx
    rcases List.mem_cons.1 hx with rfl | hx
    · exact ⟨h.1.1, h.1.2⟩
    · have := ih h.2 x hx; exact ⟨by omega, this.2⟩
theorem hcnt_step (wk : Nat → Bool) (d : Int) : ∀ (l : List Int) (last : Int), incr last l = true → hcnt wk (d + 1) l = hcnt wk d l + if l.contains d && !wk (d % 7).toNat then 1 else 0
  | [], _, _ => by simp [hcnt]
  | h :: l, last, hi => by
    unfold incr at hi
    simp only [Bool.and_eq_true, decide_eq_true_eq] at hi
    have ih := hcnt_step wk d l h hi.2
    have hm := incr_le hi.2
    unfold hcnt
    rw [ih]
    by_cases e : h = d
    · subst e
      have hn : l.contains h = false := by
        rw [← Bool.not_eq_true]; intro hc
        have := hm h (by simpa using hc); omega
      have o1 : offH wk h h = false := by unfold offH; simp
      have o2 : offH wk (h + 1) h = !wk (h % 7).toNat := by unfold offH; simp; omega
      rw [o1, o2, hn]
      simp
      exact Int.add_comm _ _
    · have hne : (d == h) = false := by simp; omega
      have o : offH wk (d + 1) h = offH wk d h := by
        unfold offH
        have : decide (h < d + 1) = decide (h < d) := decide_eq_decide.2 (by omega)
        rw [this]
      rw [o, List.contains_cons, hne]
      simp
      omega
theorem wsum_step (wk : Nat → Bool) (d : Int) (h0 : 0 ≤ d) : ∀ k : Nat, k ≤ 7 → wsum wk (d + 1) k = wsum wk d k + if (d % 7).toNat < k ∧ wk (d % 7).toNat = false then 1 else 0
  | 0, _ => by simp [wsum]
  | k + 1, hk => by
    have ih := wsum_step wk d h0 k (by omega)
    unfold wsum
    rw [ih]
    by_cases e : (d % 7).toNat = k
    · rw [if_neg (by omega)]
      subst e
      cases hw : wk (d % 7).toNat
      · simp; omega
      · simp
    · have hd : (d + 1 + 6 - k) / 7 = (d + 6 - k) / 7 := by omega
      rw [hd]
      have e3 : ((d % 7).toNat < k + 1 ∧ wk (d % 7).toNat = false) ↔ ((d % 7).toNat < k ∧ wk (d % 7).toNat = false) := ⟨fun h => ⟨by omega, h.2⟩, fun h => ⟨by omega, h.2⟩⟩
      simp only [e3]
      exact Int.add_right_comm _ _ _
theorem A_step {wk : Nat → Bool} {hs : List Int} (hi : incr (-1) hs = true) (d : Int) (h0 : 0 ≤ d) : A wk hs (d + 1) = A wk hs d + if biz wk hs d then 1 else 0 := by
  unfold A biz
  rw [wsum_step wk d h0 7 (by omega), hcnt_step wk d hs _ hi]
  have h7 : (d % 7).toNat < 7 := by omega
  cases hw : wk (d % 7).toNat <;> cases hc : hs.contains d <;> simp [h7] <;> omega
theorem A_zero {wk : Nat → Bool} {hs : List Int} (hi : incr (-1) hs = true) : A wk hs 0 = 0 := by
  have h1 : ∀ k : Nat, k ≤ 7 → wsum wk 0 k = 0 := by
    intro k
    induction k with
    | zero => intro _; rfl
    | succ k ih =>
      intro hk
      unfold wsum
      rw [ih (by omega)]
      have : ((0 : Int) + 6 - k) / 7 = 0 := by omega
      rw [this]; split <;> rfl
  have h2 : ∀ l : List Int, (∀ x ∈ l, -1 < x) → hcnt wk 0 l = 0 := by
    intro l
    induction l with
    | nil => intro _; rfl
    | cons x l ih =>
      intro hx
      unfold hcnt
      rw [ih (fun y hy => hx y (List.mem_cons_of_mem _ hy))]
      have : offH wk 0 x = false := by unfold offH; have := hx x (List.mem_cons_self ..); simp; omega
      rw [this]; rfl
  unfold A
  rw [h1 7 (by omega), h2 hs (fun x hx => (incr_le hi x hx).1)]
  rfl
theorem A_mono {wk : Nat → Bool} {hs : List Int} (hi : incr (-1) hs = true) (n : Nat) (d : Int) (h0 : 0 ≤ d) : A wk hs d ≤ A wk hs (d + n) ∧ A wk hs (d + n) ≤ A wk hs d + n := by
  induction n with
  | zero => simp
  | succ n ih =>
    have := A_step (wk := wk) hi (d + n) (by omega)
    rw [show d + ((n + 1 : Nat) : Int) = d + n + 1 by omega, this]
    split <;> omega
theorem A_le {wk : Nat → Bool} {hs : List Int} (hi : incr (-1) hs = true) {a b : Int} (h0 : 0 ≤ a) (h : a ≤ b) : A wk hs a ≤ A wk hs b ∧ A wk hs b ≤ A wk hs a + (b - a) := by
  have := A_mono (wk := wk) hi (b - a).toNat a h0
  rw [show a + ((b - a).toNat : Int) = b by omega] at this
  omega
theorem A_bd {wk : Nat → Bool} {hs : List Int} (hi : incr (-1) hs = true) {a : Int} (h0 : 0 ≤ a) : 0 ≤ A wk hs a ∧ A wk hs a ≤ a := by
  have := A_le (wk := wk) hi (Int.le_refl 0) h0
  rw [A_zero hi] at this
  omega

/-- The first place below n at which p holds. -/
noncomputable def firstAt (p : Nat → Bool) (n : Nat) : Nat :=
  open Classical in if h : ∃ r, r ≤ n ∧ (∀ t, t < r → p t = false) ∧ (∀ t, r ≤ t → t < n → p t = true) then Classical.choose h else n
theorem firstAt_eq {p : Nat → Bool} {n r : Nat} (h1 : r ≤ n) (h2 : ∀ t, t < r → p t = false) (h3 : ∀ t, r ≤ t → t < n → p t = true) : firstAt p n = r := by
  have h : ∃ r, r ≤ n ∧ (∀ t, t < r → p t = false) ∧ (∀ t, r ≤ t → t < n → p t = true) := ⟨r, h1, h2, h3⟩
  unfold firstAt
  rw [dif_pos h]
  obtain ⟨k1, k2, k3⟩ := Classical.choose_spec h
  generalize Classical.choose h = s at *
  rcases Nat.lt_trichotomy s r with hlt | heq | hgt
  · have a := h2 s hlt
    have b := k3 s (Nat.le_refl _) (by omega)
    rw [a] at b; cases b
  · exact heq
  · have a := k2 r hgt
    have b := h3 r (Nat.le_refl _) (by omega)
    rw [a] at b; cases b
def past (wk : Nat → Bool) (hs : List Int) (n : Int) (t : Nat) : Bool := decide (n < A wk hs (t + 1))
/-- The business day before which there are n others, or 73049. -/
noncomputable def nth (wk : Nat → Bool) (hs : List Int) (n : Int) : Int := firstAt (past wk hs n) 73049
theorem past_mono {wk : Nat → Bool} {hs : List Int} (hi : incr (-1) hs = true) (n : Int) : ∀ a b, a ≤ b → b < 73049 → past wk hs n a = true → past wk hs n b = true := by
  intro a b hab _ ha
  unfold past at *
  have := (A_le (wk := wk) hi (a := (a : Int) + 1) (b := (b : Int) + 1) (by omega) (by omega)).1
  simp only [decide_eq_true_eq] at *
  omega
/-- What nth finds. -/
theorem nth_of {wk : Nat → Bool} {hs : List Int} (hi : incr (-1) hs = true) {n r : Int} (h0 : 0 ≤ r) (h1 : r ≤ 73048) (h2 : A wk hs r ≤ n) (h3 : n < A wk hs (r + 1)) : nth wk hs n = r := by
  unfold nth
  rw [firstAt_eq (r := r.toNat) (by omega)]
  · omega
  · intro t ht
    have := (A_le (wk := wk) hi (a := (t : Int) + 1) (b := r) (by omega) (by omega)).1
    unfold past; simp only [decide_eq_false_iff_not]; omega
  · intro t ht _
    have := (A_le (wk := wk) hi (a := r + 1) (b := (t : Int) + 1) (by omega) (by omega)).1
    unfold past; simp only [decide_eq_true_eq]; omega
theorem nth_none {wk : Nat → Bool} {hs : List Int} (hi : incr (-1) hs = true) {n : Int} (h : A wk hs 73049 ≤ n) : nth wk hs n = 73049 := by
  unfold nth
  rw [firstAt_eq (r := 73049) (Nat.le_refl _)]
  · rfl
  · intro t ht
    have := (A_le (wk := wk) hi (a := (t : Int) + 1) (b := 73049) (by omega) (by omega)).1
    unfold past; simp only [decide_eq_false_iff_not]; omega
  · intro t h1 h2; omega
/-- Between two days whose counts enclose n lies the day that nth finds. -/
theorem nth_found {wk : Nat → Bool} {hs : List Int} (hi : incr (-1) hs = true) {n : Int} (k : Nat) : ∀ (a : Int), 0 ≤ a → a + k ≤ 73049 → A wk hs a ≤ n → n < A wk hs (a + k) →
    a ≤ nth wk hs n ∧ nth wk hs n < a + k ∧ A wk hs (nth wk hs n) = n ∧ biz wk hs (nth wk hs n) = true := by
  induction k with
  | zero => intro a _ _ h1 h2; simp at h2; omega
  | succ k ih =>
    intro a h0 hk h1 h2
    by_cases c : n < A wk hs (a + k)
    · have := ih a h0 (by omega) h1 c
      exact ⟨this.1, by omega, this.2.2⟩
    · rw [show a + ((k + 1 : Nat) : Int) = a + k + 1 by omega] at h2
      have hs1 := A_step (wk := wk) hi (a + k) (by omega)
      have e := nth_of (wk := wk) hi (n := n) (r := a + k) (by omega) (by omega) (by omega) h2
      rw [e]
      refine ⟨by omega, by omega, ?_, ?_⟩
      · rw [hs1] at h2; split at h2 <;> omega
      · cases hb : biz wk hs (a + k)
        · rw [hs1, hb] at h2; simp at h2; omega
        · rfl
end Go.Proofs.YthnjbcdfcpchnaaDoor.Biz
