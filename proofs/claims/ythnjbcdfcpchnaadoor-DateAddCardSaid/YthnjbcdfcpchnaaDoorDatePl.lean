/- Plain laws of business days for the statements. -/
import Derived.Test.YthnjbcdfcpchnaaDoorDateQ
namespace Go.Proofs.YthnjbcdfcpchnaaDoor
variable {wk : Nat → Bool} {hs : List Int}
theorem nthE_zero (hi : Biz.incr (-1) hs = true) {n : Int} (h0 : 0 ≤ n) (h : nthE wk hs n = 0) : 0 ≤ nthV wk hs n ∧ nthV wk hs n ≤ 73048 ∧ Biz.A wk hs (nthV wk hs n) = n ∧ Biz.biz wk hs (nthV wk hs n) = true ∧ Biz.nth wk hs n = nthV wk hs n := by
  have hle : Biz.nth wk hs n ≤ 73048 := by
    unfold nthE at h; split at h
    · assumption
    · cases h
  have hn : ¬ Biz.A wk hs 73049 ≤ n := fun k => by rw [Biz.nth_none hi k] at hle; omega
  have hv := (nth_is (wk := wk) (hs := hs) rfl hle).1
  have := Biz.nth_found (wk := wk) hi (n := n) 73049 0 (by omega) (by omega) (by rw [Biz.A_zero hi]; exact h0) (by rw [Int.zero_add]; exact Int.not_le.1 hn)
  rw [hv]; exact ⟨this.1, hle, this.2.2.1, this.2.2.2, rfl⟩
theorem nthE_two (hi : Biz.incr (-1) hs = true) {n : Int} (h0 : 0 ≤ n) (h : nthE wk hs n ≠ 0) : nthE wk hs n = 2 ∧ Biz.A wk hs 73049 ≤ n := by
  have h2 : nthE wk hs n = 2 := by
    unfold nthE at h ⊢; split
    · rename_i hle; rw [if_pos hle] at h; exact absurd rfl h
    · rfl
  refine ⟨h2, ?_⟩
  rcases Int.lt_or_le n (Biz.A wk hs 73049) with hlt | hge
  · have := Biz.nth_found (wk := wk) hi (n := n) 73049 0 (by omega) (by omega) (by rw [Biz.A_zero hi]; exact h0) (by rw [Int.zero_add]; exact hlt)
    have hz := (nth_is (wk := wk) (hs := hs) (n := n) rfl (by omega)).2
    rw [hz] at h2; cases h2
  · exact hge
/-- Where the counts agree, the business day is the later one. -/
theorem le_of_A (hi : Biz.incr (-1) hs = true) {d r : Int} (h0 : 0 ≤ d) (r0 : 0 ≤ r) (h : Biz.A wk hs d ≤ Biz.A wk hs r) (hb : Biz.biz wk hs r = true) : d ≤ r := by
  rcases Int.lt_or_le r d with hlt | hge
  · have hs1 := Biz.A_step (wk := wk) hi r r0
    rw [hb] at hs1; simp at hs1
    have := (Biz.A_le (wk := wk) hi (a := r + 1) (b := d) (by omega) (by omega)).1
    omega
  · exact hge
theorem biz_of_flat (hi : Biz.incr (-1) hs = true) {d : Int} (h0 : 0 ≤ d) (h : Biz.A wk hs (d + 1) ≤ Biz.A wk hs d) : Biz.biz wk hs d = false := by
  have hs1 := Biz.A_step (wk := wk) hi d h0
  cases hb : Biz.biz wk hs d
  · rfl
  · rw [hb] at hs1; simp at hs1; omega
theorem nextE_zero {d : Int} (h : nextE wk hs d = 0) : Biz.valid wk hs = true ∧ 0 ≤ d ∧ d ≤ 73048 ∧ d ≤ nextV wk hs d ∧ nextV wk hs d ≤ 73048 ∧ Biz.A wk hs (nextV wk hs d) = Biz.A wk hs d ∧ Biz.biz wk hs (nextV wk hs d) = true ∧ Biz.nth wk hs (Biz.A wk hs d) = nextV wk hs d := by
  by_cases c : Biz.valid wk hs = true ∧ 0 ≤ d ∧ d ≤ 73048
  · obtain ⟨hv, h0, h1⟩ := c
    obtain ⟨hi, _⟩ := Biz.valid_parts hv
    obtain ⟨e1, e2⟩ := next_is hv h0 h1
    rw [e2] at h
    obtain ⟨k1, k2, k3, k4, k5⟩ := nthE_zero hi (Biz.A_bd hi h0).1 h
    rw [e1]
    exact ⟨hv, h0, h1, le_of_A hi h0 k1 (by omega) k4, k2, k3, k4, k5⟩
  · rw [(next_isnt c).2] at h; cases h
theorem bizF_is {d : Int} (hv : Biz.valid wk hs = true) (h0 : 0 ≤ d) (h1 : d ≤ 73048) : bizF wk hs d = Biz.biz wk hs d := by
  unfold bizF; rw [hv, decide_eq_true (show 0 ≤ d ∧ d ≤ 73048 from ⟨h0, h1⟩)]; rfl
theorem next_self {n : Int} (hv : Biz.valid wk hs = true) (h0 : 0 ≤ n) (h1 : n ≤ 73048) (hb : Biz.biz wk hs n = true) : nextV wk hs n = n ∧ nextE wk hs n = 0 := by
  obtain ⟨hi, _⟩ := Biz.valid_parts hv
  obtain ⟨e1, e2⟩ := next_is hv h0 h1
  have hs1 := Biz.A_step (wk := wk) hi n h0
  rw [hb] at hs1; simp at hs1
  have := nth_is (Biz.nth_of (wk := wk) hi (n := Biz.A wk hs n) h0 h1 (Int.le_refl _) (by omega)) h1
  rw [e1, e2]; exact this
end Go.Proofs.YthnjbcdfcpchnaaDoor
