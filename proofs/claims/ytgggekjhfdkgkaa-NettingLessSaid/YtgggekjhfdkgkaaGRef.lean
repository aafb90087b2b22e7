/- Merged texts: GRef GRefN GRefP GRefQ GRefE GRefM GRefR. -/
import Derived.Test.YtgggekjhfdkgkaaGRat
import Derived.Test.YtgggekjhfdkgkaaDx11
import Derived.Test.YtgggekjhfdkgkaaGNetC
import Derived.Test.YtgggekjhfdkgkaaDx12
import Derived.Test.YtgggekjhfdkgkaaDx10
section
namespace Go.Proofs.Ytgggekjhfdkgkaa.Ab
open Go
theorem euclid' {ρ : Type} (f : Int → ρ) : ∀ (k x y : Nat), y < 2 ^ k → loopN (fun s : Int × Int => if (decide (s.2 > 0)) = true then (remO s.1 s.2).bind fun r => some (.inl (s.2, r)) else some (.inr (f s.1))) (2 * k + 1) ((x : Int), (y : Int)) = some (f (Nat.gcd x y : Nat)) := by
  intro k
  induction k with
  | zero => intro x y h; obtain rfl : y = 0 := by simpa using h
            simp [loopN]
  | succ k ih =>
    intro x y h
    rw [show 2 * (k + 1) + 1 = (2 * k + 1) + 1 + 1 by omega]
    by_cases hy : y = 0
    · subst hy; simp [loopN]
    · have h1 : decide ((y : Int) > 0) = true := decide_eq_true (by omega)
      have h2 : remO (x : Int) (y : Int) = some ((x % y : Nat) : Int) := by unfold remO; rw [if_neg (by omega)]; rw [Int.tmod_eq_emod_of_nonneg (by omega)]; rfl
      unfold loopN
      simp only [h1, if_true, h2, Option.bind_some]
      by_cases hr : x % y = 0
      · unfold loopN
        simp only [hr, Int.natCast_zero, show decide ((0 : Int) > 0) = false from rfl]
        rw [Nat.gcd_comm, Nat.gcd_rec, hr, Nat.gcd_zero_left]
        simp
      · have h3 : decide (((x % y : Nat) : Int) > 0) = true := decide_eq_true (by omega)
        have h4 : remO (y : Int) ((x % y : Nat) : Int) = some ((y % (x % y) : Nat) : Int) := by unfold remO; rw [if_neg (by omega)]; rw [Int.tmod_eq_emod_of_nonneg (by omega)]; rfl
        unfold loopN
        simp only [h3, if_true, h4, Option.bind_some]
        have hlt : x % y < y := Nat.mod_lt _ (by omega)
        have hd : y % (x % y) < 2 ^ k := by
          have := Nat.mod_lt y (show x % y > 0 by omega)
          have h5 : y % (x % y) ≤ y - x % y := by
            rw [Nat.mod_eq_sub_mod (by omega)]; exact Nat.mod_le _ _
          rw [Nat.pow_succ] at h; omega
        rw [ih _ _ hd]
        congr 2
        rw [Nat.gcd_comm (x % y), ← Nat.gcd_rec, ← Nat.gcd_rec, Nat.gcd_comm]
theorem r_size (n : Int) (h : i64B n) : g_estoppelref01_size n = some (n.natAbs : Int) := g_magnitude n h
theorem r_Gcd (x y : Nat) (h : (y : Int) ≤ 18446744073709551615) : g_estoppelref01_Gcd (x : Int) (y : Int) = some ((Nat.gcd x y : Nat) : Int) := by
  unfold g_estoppelref01_Gcd
  rw [loopO_of (euclid' (fun g => (.inl g : Int ⊕ Int)) 64 x y (by rw [show (2:Nat)^64 = 18446744073709551616 by decide]; omega)) (by unfold rounds; omega)]
  rfl
theorem r_Valid (r : D.Ratio) (h : i64B r.Num) (h' : i64B r.Den) : g_estoppelref01_Valid r = some (Rt.ok r.Num r.Den) := by
  obtain ⟨n, d⟩ := r
  unfold i64B at h h'
  simp only at h h'
  unfold g_estoppelref01_Valid
  simp only [r_size n h, r_size d h', Option.bind_some]
  rw [r_Gcd _ _ (by omega)]
  simp only [Option.bind_some]
  unfold Rt.ok
  by_cases h1 : d ≥ 1
  · by_cases h2 : d ≤ 1000000
    · by_cases h3 : n ≥ -1000000000000
      · by_cases h4 : n ≤ 1000000000000
        · simp only [h1, h2, h3, h4, decide_true, if_true]
          congr 1
          rw [Bool.eq_iff_iff, beq_iff_eq, decide_eq_true_iff]
          constructor
          · intro h; exact ⟨by first | trivial | omega, trivial, by omega, by omega⟩
          · rintro ⟨_, _, _, h⟩; omega
        · simp only [h1, h2, h3, h4, decide_true, if_true, decide_false, Bool.false_eq_true, if_false]
          congr 1; symm; exact decide_eq_false (by omega)
      · simp only [h1, h2, h3, decide_true, if_true, decide_false, Bool.false_eq_true, if_false]
        congr 1; symm; exact decide_eq_false (by omega)
    · simp only [h1, h2, decide_true, if_true, decide_false, Bool.false_eq_true, if_false, false_and, and_false]
      try first | done | (congr 1; symm; exact decide_eq_false (by omega)) | simp
  · simp only [h1, decide_false, Bool.false_eq_true, if_false, false_and]
    try first | done | (congr 1; symm; exact decide_eq_false (by omega)) | simp
theorem r_of (neg : Bool) (n d : Nat) (hd : d ≠ 0) (h1 : (n : Int) ≤ 18446744073709551615) (h2 : (d : Int) ≤ 18446744073709551615) : g_estoppelref01_of neg n d = some (asR (Rt.red neg n d)) := by
  have hg : 0 < Nat.gcd n d := Nat.gcd_pos_of_pos_right _ (Nat.pos_of_ne_zero hd)
  have q1 : quoO .u64 (n : Int) (Nat.gcd n d : Nat) = some ((n / Nat.gcd n d : Nat) : Int) := by
    unfold quoO; rw [if_neg (by omega), Int.tdiv_eq_ediv_of_nonneg (by omega), ← Int.natCast_ediv]
    have := Nat.div_le_self n (Nat.gcd n d)
    generalize n / Nat.gcd n d = q at this ⊢
    rw [wrapU _ (by omega) (by omega)]
  have q2 : quoO .u64 (d : Int) (Nat.gcd n d : Nat) = some ((d / Nat.gcd n d : Nat) : Int) := by
    unfold quoO; rw [if_neg (by omega), Int.tdiv_eq_ediv_of_nonneg (by omega), ← Int.natCast_ediv]
    have := Nat.div_le_self d (Nat.gcd n d)
    generalize d / Nat.gcd n d = q at this ⊢
    rw [wrapU _ (by omega) (by omega)]
  unfold g_estoppelref01_of
  rw [r_Gcd _ _ h2, if_neg (by simpa using hd)]
  simp only [Option.bind_some, q1, q2]
  unfold Rt.red asR
  generalize n / Nat.gcd n d = q
  generalize d / Nat.gcd n d = r
  by_cases c1 : 1000000000000 < q
  · have : decide ((q : Int) > 1000000000000) = true := decide_eq_true (by omega)
    simp only [this, if_true, bindF_l, c1, true_or]
  · have : decide ((q : Int) > 1000000000000) = false := decide_eq_false (by omega)
    simp only [this, Bool.false_eq_true, if_false, bindF_l]
    by_cases c2 : 1000000 < r
    · have : decide ((r : Int) > 1000000) = true := decide_eq_true (by omega)
      simp only [this, if_true, c2, or_true]
    · have : decide ((r : Int) > 1000000) = false := decide_eq_false (by omega)
      simp only [this, Bool.false_eq_true, if_false, c1, c2, or_self]
      rw [wrapI (q : Int) (by omega) (by omega), wrapI (r : Int) (by omega) (by omega)]
      cases neg
      · simp
      · simp only [if_true, bindF_l]
        rw [wrapI _ (by omega) (by omega)]
        simp
theorem r_Make (n d : Int) (hn : i64B n) (hd : i64B d) : g_estoppelref01_Make n d = some (asR (Rt.make n d)) := by
  unfold g_estoppelref01_Make
  unfold i64B at hn hd
  simp only [r_size n hn, r_size d hd, Option.bind_some]
  by_cases h0 : d = 0
  · subst h0; rfl
  · rw [r_of _ _ _ (by omega) (by omega) (by omega), Rt.make_red h0]
    rfl
theorem r_Add (a b : D.Ratio) (h1 : i64B a.Num) (h2 : i64B a.Den) (h3 : i64B b.Num) (h4 : i64B b.Den) : g_estoppelref01_Add a b = some (asR (Rt.add a.Num a.Den b.Num b.Den)) := by
  unfold g_estoppelref01_Add
  rw [r_Valid a h1 h2, r_Valid b h3 h4]
  simp only [Option.bind_some]
  cases ha : Rt.ok a.Num a.Den
  · simp [Rt.add, ha, asR]
  · cases hb : Rt.ok b.Num b.Den
    · simp [Rt.add, ha, hb, asR]
    · rw [Rt.add_make ha hb]
      obtain ⟨x1, x2, x3, _⟩ := Rt.ok_iff.1 ha
      obtain ⟨y1, y2, y3, _⟩ := Rt.ok_iff.1 hb
      have m1 := Rt.mul_bd a.Num b.Den x3 y1 y2 rfl rfl
      have m2 := Rt.mul_bd b.Num a.Den y3 x1 x2 rfl rfl
      have m3 := Rt.mul_bd a.Den b.Den (by omega) y1 y2 rfl rfl
      simp only [Bool.not_true, Bool.false_eq_true, if_false, bindF_l]
      rw [wrapI (a.Num * b.Den) (by omega) (by omega), wrapI (b.Num * a.Den) (by omega) (by omega), wrapI (a.Den * b.Den) (by omega) (by omega), wrapI (a.Num * b.Den + b.Num * a.Den) (by omega) (by omega)]
      rw [r_Make _ _ (by unfold i64B; omega) (by unfold i64B; omega)]
      rfl
theorem r_Cmp (a b : D.Ratio) (h1 : i64B a.Num) (h2 : i64B a.Den) (h3 : i64B b.Num) (h4 : i64B b.Den) : g_estoppelref01_Cmp a b = some (Rt.cmp a.Num a.Den b.Num b.Den) := by
  unfold g_estoppelref01_Cmp
  rw [r_Valid a h1 h2, r_Valid b h3 h4]
  simp only [Option.bind_some]
  cases ha : Rt.ok a.Num a.Den
  · simp [Rt.cmp, ha]
  · cases hb : Rt.ok b.Num b.Den
    · simp [Rt.cmp, ha, hb]
    · obtain ⟨x1, x2, x3, _⟩ := Rt.ok_iff.1 ha
      obtain ⟨y1, y2, y3, _⟩ := Rt.ok_iff.1 hb
      have m1 := Rt.mul_bd a.Num b.Den x3 y1 y2 rfl rfl
      have m2 := Rt.mul_bd b.Num a.Den y3 x1 x2 rfl rfl
      have l1 := Rt.lt_iff ha hb
      have l2 := Rt.lt_iff hb ha
      unfold Rt.cmp
      simp only [Bool.not_true, Bool.false_eq_true, if_false, bindF_l, ha, hb, and_self, if_true, l1, l2]
      rw [wrapI (a.Num * b.Den) (by omega) (by omega), wrapI (b.Num * a.Den) (by omega) (by omega)]
      generalize a.Num * b.Den = p
      generalize b.Num * a.Den = q
      by_cases c1 : p < q
      · have : p - q < 0 := by omega
        simp only [c1, this, decide_true, if_true]
      · have e1 : ¬ p - q < 0 := by omega
        by_cases c2 : q - p < 0
        · have : p > q := by omega
          simp only [c1, c2, e1, this, decide_true, decide_false, if_true, if_false, Bool.false_eq_true]
        · have : ¬ p > q := by omega
          simp only [c1, c2, e1, this, decide_false, if_false, Bool.false_eq_true]
end Go.Proofs.Ytgggekjhfdkgkaa.Ab
end
section
namespace Go.Proofs.Ytgggekjhfdkgkaa.Ab
open Go
theorem r_bad {τ : Type} (x : D.Debt) (m : Int) (h : i64D x) : (if (decide (x.From < 0)) = true then
  some (.inl true)
  else
  if (decide (x.From ≥ m)) = true then
  some (.inl true)
  else
  if (decide (x.To < 0)) = true then
  some (.inl true)
  else
  if (decide (x.To ≥ m)) = true then
  some (.inl true)
  else
  if (x.From == x.To) = true then
  some (.inl true)
  else
  (g_estoppelref01_Valid x.Amount).bind fun y =>
  if (!y) = true then
  some (.inl true)
  else
  some (.inl (decide (x.Amount.Num ≤ 0))) : Option (Bool ⊕ τ)) = some (.inl (!Nt.okD m (toN x))) := by
  obtain ⟨f, t, n, d⟩ := x
  obtain ⟨_, _, h3, h4⟩ := h
  unfold Nt.okD toN
  simp only at h3 h4
  simp only [r_Valid ⟨n, d⟩ h3 h4, Option.bind_some]
  by_cases a1 : f < 0
  · have : ¬ (0 ≤ f ∧ f < m) := by omega
    simp [a1, this]
  by_cases a2 : f ≥ m
  · have : ¬ (0 ≤ f ∧ f < m) := by omega
    simp [a1, a2, this]
  have p1 : 0 ≤ f ∧ f < m := by omega
  by_cases b1 : t < 0
  · have : ¬ (0 ≤ t ∧ t < m) := by omega
    simp [a1, a2, b1, this]
  by_cases b2 : t ≥ m
  · have : ¬ (0 ≤ t ∧ t < m) := by omega
    simp [a1, a2, b1, b2, this]
  have p2 : 0 ≤ t ∧ t < m := by omega
  by_cases c : f = t
  · simp [a1, a2, b1, b2, c]
  cases Rt.ok n d
  · simp [a1, a2, b1, b2, c]
  · by_cases e : n ≤ 0
    · have : ¬ 0 < n := by omega
      simp [a1, a2, b1, b2, c, e, this]
    · have : 0 < n := by omega
      simp [a1, a2, b1, b2, c, e, this, p1, p2]
theorem r_nValid (m : Int) (l : List D.Debt) (h : ∀ x ∈ l, i64D x) : g_estoppelref42_Valid m l = some (Nt.valid m (l.map toN)) := by
  unfold g_estoppelref42_Valid
  by_cases h1 : m < 1
  · have : Nt.valid m (l.map toN) = false := by unfold Nt.valid; simp; omega
    rw [this, if_pos (decide_eq_true h1)]; rfl
  rw [if_neg (by simpa using h1)]
  by_cases h2 : m > 12
  · have : Nt.valid m (l.map toN) = false := by unfold Nt.valid; simp; omega
    rw [this, if_pos (decide_eq_true h2)]; rfl
  rw [if_neg (by simpa using h2)]
  by_cases h3 : (l.length : Int) > 400
  · have : Nt.valid m (l.map toN) = false := by unfold Nt.valid; simp; omega
    rw [this, decide_eq_true h3]; rfl
  rw [decide_eq_false h3]
  simp only [bindF_l, Bool.false_eq_true, if_false]
  obtain ⟨r, hr, hq⟩ := range_rule (ρ := Unit ⊕ Bool) (body := fun (s : Int) =>
      if (decide (s < (l.length : Int))) = true then
      (getI l s).bind fun x =>
      bindF (ρ := Bool) (
      if (decide (x.From < 0)) = true then some (.inl true) else
      if (decide (x.From ≥ m)) = true then some (.inl true) else
      if (decide (x.To < 0)) = true then some (.inl true) else
      if (decide (x.To ≥ m)) = true then some (.inl true) else
      if (x.From == x.To) = true then some (.inl true) else
      (g_estoppelref01_Valid x.Amount).bind fun y =>
      if (!y) = true then some (.inl true) else some (.inl (decide (x.Amount.Num ≤ 0)))) (fun (e : Bool) =>
      if e = true then some (.inr (.inr false)) else some (.inl (IntKind.i64.wrap (s + 1))))
      else some (.inr (.inl ()))) (fun s => s) l.length (fun i _ => (l.take i).all (fun x => Nt.okD m (toN x)) = true)
      (fun r => (r = .inl () ∧ (l.all fun x => Nt.okD m (toN x)) = true) ∨ (r = .inr false ∧ (l.all fun x => Nt.okD m (toN x)) = false))
      (fun i s hi hs hJ => by
        subst hs
        have hg : getI l (i : Int) = some l[i] := by rw [getI_nat, List.getElem?_eq_getElem hi]
        simp only [lt_dec hi, if_true, hg, Option.bind_some]
        rw [r_bad l[i] m (h l[i] (List.getElem_mem hi))]
        simp only [bindF_l]
        cases hb : Nt.okD m (toN l[i])
        · right
          refine ⟨.inr false, rfl, .inr ⟨rfl, ?_⟩⟩
          rw [List.all_eq_false]; exact ⟨l[i], List.getElem_mem hi, by simp [hb]⟩
        · left
          refine ⟨((i + 1 : Nat) : Int), by simp only [Bool.not_true, Bool.false_eq_true, if_false]; rw [inc i (by omega)], rfl, ?_⟩
          rw [List.take_succ_eq_append_getElem hi, List.all_append, hJ]; simpa using hb)
      (fun s hs hJ => by
        subst hs
        refine ⟨.inl (), by simp only [Int.lt_irrefl, decide_false, Bool.false_eq_true, if_false], .inl ⟨rfl, ?_⟩⟩
        rw [List.take_length] at hJ; exact hJ) (s := 0) (i := 0) rfl (by simp) (by omega) (by omega)
  rw [hr]
  have hv : Nt.valid m (l.map toN) = l.all fun x => Nt.okD m (toN x) := by
    unfold Nt.valid
    rw [decide_eq_true (by omega : 1 ≤ m ∧ m ≤ 12), decide_eq_true (by simp; omega), List.all_map]; rfl
  rw [hv]
  rcases hq with ⟨rfl, hq⟩ | ⟨rfl, hq⟩
  · rw [hq]; rfl
  · rw [hq]; rfl
end Go.Proofs.Ytgggekjhfdkgkaa.Ab
end
section
namespace Go.Proofs.Ytgggekjhfdkgkaa.Ab
open Go
theorem r_Minus (r : D.Ratio) (h : i64B r.Num) (h' : r.Num ≠ -9223372036854775808) : g_estoppelref42_Minus r = some ⟨-r.Num, r.Den⟩ := by
  unfold i64B at h
  unfold g_estoppelref42_Minus
  rw [wrapI _ (by omega) (by omega), Int.zero_sub]
theorem r_position (l : List D.Debt) (p : Int) (hl : l.length ≤ 400) (hok : ∀ x ∈ l, Rt.ok x.Amount.Num x.Amount.Den = true) : g_estoppelref42_position l p = some (asR (Nt.res (Nt.pos (l.map toN) p))) := by
  unfold g_estoppelref42_position g_estoppelref42_Zero
  simp only [Option.bind_some]
  unfold Nt.pos
  rw [range_eq (σ := D.Ratio × Int) (ρ := D.Ratio ⊕ (D.Ratio × Int)) (fun z => z.2) l.length (fun i z => ∃ r : Rat, Rt.fits r = true ∧ z.1 = ofQ r ∧ Nt.sumO (Nt.sgnP p) ((l.map toN).drop i) r = Nt.sumO (Nt.sgnP p) (l.map toN) 0)
      (match Nt.sumO (Nt.sgnP p) (l.map toN) 0 with | some r => .inl (ofQ r) | none => .inr (⟨0, 0⟩, 2))
      (fun i z hi hz ⟨r, hr, h1, hs⟩ => by
        obtain ⟨z1, z3⟩ := z
        simp only at hz h1; subst hz; subst h1
        have hg' : getI l (i : Int) = some l[i] := by rw [getI_nat, List.getElem?_eq_getElem hi]
        have hx := hok l[i] (List.getElem_mem hi)
        have hd : (l.map toN).drop i = toN l[i] :: (l.map toN).drop (i + 1) := by
          rw [List.drop_eq_getElem_cons (by simpa using hi)]; simp
        obtain ⟨b1, b2, b3⟩ := okB hx
        obtain ⟨c1, c2, _⟩ := okB (Rt.ok_rat hr)
        simp only [decide_eq_true (show (i : Int) < (l.length : Int) by omega), if_true, hg', Option.bind_some]
        rw [inc i (by omega)]
        by_cases v1 : l[i].To = p
        · have w1 : Nt.sgnP p (toN l[i]) = 1 := by unfold Nt.sgnP toN; rw [if_pos v1.symm]
          have ea : Rt.add (ofQ r).Num (ofQ r).Den l[i].Amount.Num l[i].Amount.Den = Rt.fit (r + Nt.sg 1 (toN l[i]).amt) := Nt.add_sg1 (x := toN l[i]) hr hx
          simp only [v1, beq_self_eq_true, if_true, r_Add (ofQ r) l[i].Amount c1 c2 b1 b2, ea, asR_fit, Option.bind_some, bindF_l]
          by_cases hf : Rt.fits (r + Nt.sg 1 (toN l[i]).amt) = true
          · left
            refine ⟨(ofQ (r + Nt.sg 1 (toN l[i]).amt), ((i + 1 : Nat) : Int)), by simp [hf], rfl, _, hf, rfl, ?_⟩
            rw [← hs, Nt.sumO_step hd w1 hf]
          · right
            rw [← hs, Nt.sumO_stop hd w1 hf]
            simp [hf]
        · have hb1 : (l[i].To == p) = false := by simpa using v1
          by_cases v2 : l[i].From = p
          · have w2 : Nt.sgnP p (toN l[i]) = -1 := by unfold Nt.sgnP toN; rw [if_neg (fun e => v1 e.symm), if_pos v2.symm]
            have ea : Rt.add (ofQ r).Num (ofQ r).Den (-l[i].Amount.Num) l[i].Amount.Den = Rt.fit (r + Nt.sg (-1) (toN l[i]).amt) := Nt.add_sgm (x := toN l[i]) hr hx
            have hm : i64B (-l[i].Amount.Num) := by unfold i64B at b1 ⊢; omega
            simp only [hb1, v2, Bool.false_eq_true, if_false, beq_self_eq_true, if_true, r_Minus l[i].Amount b1 b3, r_Add (ofQ r) ⟨-l[i].Amount.Num, l[i].Amount.Den⟩ c1 c2 hm b2, ea, asR_fit, Option.bind_some, bindF_l]
            by_cases hf : Rt.fits (r + Nt.sg (-1) (toN l[i]).amt) = true
            · left
              refine ⟨(ofQ (r + Nt.sg (-1) (toN l[i]).amt), ((i + 1 : Nat) : Int)), by simp [hf], rfl, _, hf, rfl, ?_⟩
              rw [← hs, Nt.sumO_step hd w2 hf]
            · right
              rw [← hs, Nt.sumO_stop hd w2 hf]
              simp [hf]
          · have hb2 : (l[i].From == p) = false := by simpa using v2
            have w3 : Nt.sgnP p (toN l[i]) = 0 := by unfold Nt.sgnP toN; rw [if_neg (fun e => v1 e.symm), if_neg (fun e => v2 e.symm)]
            left
            refine ⟨(ofQ r, ((i + 1 : Nat) : Int)), by simp only [hb1, hb2, Bool.false_eq_true, if_false, bindF_l, bne_self_eq_false], rfl, r, hr, rfl, ?_⟩
            rw [← hs, Nt.sumO_skip hd (by rw [w3]; decide) (by rw [w3]; decide) hr])
      (fun z hz ⟨r, hr, h1, hs⟩ => by
        rw [List.drop_eq_nil_of_le (by simp)] at hs
        rw [← hs]
        simp [hz, Nt.sumO, h1]) (i := 0) rfl ⟨0, Nt.zero_fits, rfl, rfl⟩ (by omega) (by omega)]
  cases Nt.sumO (Nt.sgnP p) (l.map toN) 0 with
  | none => rfl
  | some r => rfl
end Go.Proofs.Ytgggekjhfdkgkaa.Ab
end
section
namespace Go.Proofs.Ytgggekjhfdkgkaa.Ab
open Go
theorem r_loop {τ : Type} (e : Int → τ) (l : List D.Debt) (n : Nat) (hn : n ≤ 12) (hl : l.length ≤ 400) (hok : ∀ x ∈ l, Rt.ok x.Amount.Num x.Amount.Den = true) :
    loopO (σ := List D.Ratio × Int) (ρ := List D.Ratio ⊕ τ) (fun s =>
      if (decide (s.2 < (n : Int))) = true then
      (g_estoppelref42_position l s.2).bind fun y =>
      if (y.2 != 0) = true then some (.inr (.inr (e y.2))) else
      (appO 16 s.1 [y.1]).bind fun z => some (.inl (z, (IntKind.i64.wrap (s.2 + 1))))
      else some (.inr (.inl s.1))) ([], 0) = some (match Nt.posL (l.map toN) n with | some ps => .inl (ps.map ofQ) | none => .inr (e 2)) := by
  refine range_eq (fun s => s.2) n (fun i s => ∃ ps, Nt.posL (l.map toN) i = some ps ∧ s.1 = ps.map ofQ) _ (fun i s hi hs ⟨ps, hp, h1⟩ => ?_) (fun s hs ⟨ps, hp, h1⟩ => ?_) (i := 0) rfl ⟨[], rfl, rfl⟩ (by omega) (by omega)
  · obtain ⟨s1, s2⟩ := s
    simp only at hs h1; subst hs; subst h1
    have hlen := Nt.posL_len hp
    simp only [lt_dec hi, if_true, r_position l i hl hok, Option.bind_some]
    cases hq : Nt.pos (l.map toN) i with
    | none =>
      right
      rw [Nt.posL_none hp hq n hi]
      rfl
    | some r =>
      left
      have ha : appO 16 (ps.map ofQ) [ofQ r] = some ((ps ++ [r]).map ofQ) := by
        unfold appO; rw [if_pos (by simp; omega), List.map_append]; rfl
      refine ⟨((ps ++ [r]).map ofQ, ((i + 1 : Nat) : Int)), ?_, rfl, ps ++ [r], Nt.posL_next hp hq, rfl⟩
      show (if ((0 : Int) != 0) = true then _ else (appO 16 (ps.map ofQ) [ofQ r]).bind _) = _
      simp only [bne_self_eq_false, Bool.false_eq_true, if_false, ha, Option.bind_some]
      rw [inc i (by omega)]
  · obtain ⟨s1, s2⟩ := s
    simp only at hs h1; subst hs; subst h1
    rw [hp]; simp
theorem r_Positions (m : Int) (l : List D.Debt) (h : ∀ x ∈ l, i64D x) : g_estoppelref42_Positions m l = some (posR m (l.map toN)) := by
  unfold g_estoppelref42_Positions posR
  rw [r_nValid m l h, Option.bind_some]
  cases hv : Nt.valid m (l.map toN)
  · rfl
  · obtain ⟨⟨h1, h2⟩, h3, h4⟩ := okL hv
    obtain ⟨n, rfl⟩ : ∃ n : Nat, m = n := ⟨m.toNat, by omega⟩
    simp only [Bool.not_true, Bool.false_eq_true, if_false, if_true, Int.toNat_natCast]
    rw [r_loop (fun z => (([] : List D.Ratio), z)) l n (by omega) h3 h4]
    cases Nt.posL (l.map toN) n <;> rfl
theorem r_Positions_own (m : Int) (l : List D.Debt) (h : ∀ x ∈ l, i64D x) : g_estoppelref42_Positions_own m l = some (if Nt.valid m (l.map toN) = true then (match Nt.posL (l.map toN) m.toNat with | some ps => .inr (ps.map ofQ, 0) | none => .inl 2) else .inl 1) := by
  unfold g_estoppelref42_Positions_own
  rw [r_nValid m l h, Option.bind_some]
  cases hv : Nt.valid m (l.map toN)
  · rfl
  · obtain ⟨⟨h1, h2⟩, h3, h4⟩ := okL hv
    obtain ⟨n, rfl⟩ : ∃ n : Nat, m = n := ⟨m.toNat, by omega⟩
    simp only [Bool.not_true, Bool.false_eq_true, if_false, if_true, Int.toNat_natCast]
    rw [r_loop (fun z => (.inl z : Int ⊕ (List D.Ratio × Int))) l n (by omega) h3 h4]
    cases hp : Nt.posL (l.map toN) n with
    | none => rfl
    | some ps =>
      have hlen := Nt.posL_len hp
      cases ps with
      | nil => simp at hlen; omega
      | cons p ps => rfl
end Go.Proofs.Ytgggekjhfdkgkaa.Ab
end
section
namespace Go.Proofs.Ytgggekjhfdkgkaa.Ab
open Go
theorem r_cmp_q {a b : Rat} (ha : Rt.fits a = true) (hb : Rt.fits b = true) : g_estoppelref01_Cmp (ofQ a) (ofQ b) = some (Nt.cmpR a b) := by
  obtain ⟨a1, a2, _⟩ := okQ ha
  obtain ⟨b1, b2, _⟩ := okQ hb
  rw [r_Cmp _ _ a1 a2 b1 b2]; exact congrArg some (Nt.cmp_rat ha hb)
theorem r_ext (c : Int → Bool) (k : Int) (hc : ∀ a b, decide (IntKind.i64.wrap (k * Nt.cmpR a b) < 0) = c (Nt.cmpR a b)) (ps : List Rat) (h0 : 1 ≤ ps.length) (h1 : ps.length ≤ 12) (hf : ∀ r ∈ ps, Rt.fits r = true) : g_estoppelref42_extreme_o (ps.map ofQ) k = some ((Nt.extK c ps ps.length : Nat) : Int) := by
  unfold g_estoppelref42_extreme_o
  have e1 : Nt.extK c ps 1 = 0 := by unfold Nt.extK; split <;> rfl
  rw [range_eq (σ := Int × Int) (ρ := Int ⊕ Int) (fun s => s.2) ps.length (fun i s => s.1 = (Nt.extK c ps i : Nat)) (.inl ((Nt.extK c ps ps.length : Nat) : Int))
    (fun i s hi hs h => by
      obtain ⟨s1, s2⟩ := s
      simp only at hs h; subst hs; subst h
      have hk := Nt.extK_lt c ps ps.length h0 i (by omega)
      left
      simp only [List.length_map, lt_dec hi, if_true, getI_q hi, getI_q hk, Option.bind_some, r_cmp_q (hf _ (Nt.getD_mem hi)) (hf _ (Nt.getD_mem hk)), hc]
      rw [inc i (by omega)]
      cases hc : c (Nt.cmpR (ps.getD i 0) (ps.getD (Nt.extK c ps i) 0))
      · exact ⟨_, rfl, rfl, by simp only [Nt.extK, hc, Bool.false_eq_true, if_false]⟩
      · exact ⟨_, rfl, rfl, by simp only [Nt.extK, hc, if_true]⟩)
    (fun s hs h => by
      obtain ⟨s1, s2⟩ := s
      simp only at hs h; subst hs; subst h
      simp) (i := 1) rfl (by rw [e1]; rfl) (by omega) (by omega)]
  rfl
theorem r_min {n : Nat} {ps : List Rat} (h : Nt.Good n ps) (hn : n ≤ 12) : g_estoppelref42_extreme_o (ps.map ofQ) 1 = some ((Nt.dmin ps : Nat) : Int) :=
  r_ext (fun x => decide (x < 0)) 1 (fun a b => by unfold Nt.cmpR; split <;> (try split) <;> rfl) ps (by rw [h.len]; exact h.pos) (by rw [h.len]; exact hn) h.fit
theorem r_max {n : Nat} {ps : List Rat} (h : Nt.Good n ps) (hn : n ≤ 12) : g_estoppelref42_extreme_o (ps.map ofQ) (-1) = some ((Nt.cmax ps : Nat) : Int) :=
  r_ext (fun x => decide (0 < x)) (-1) (fun a b => by unfold Nt.cmpR; split <;> (try split) <;> rfl) ps (by rw [h.len]; exact h.pos) (by rw [h.len]; exact hn) h.fit
end Go.Proofs.Ytgggekjhfdkgkaa.Ab
end
section
namespace Go.Proofs.Ytgggekjhfdkgkaa.Ab
open Go
theorem r_add_q {a b : Rat} (ha : Rt.fits a = true) (hb : Rt.fits b = true) : g_estoppelref01_Add (ofQ a) (ofQ b) = some (asR (Rt.fit (a + b))) := by
  obtain ⟨a1, a2, _⟩ := okQ ha
  obtain ⟨b1, b2, _⟩ := okQ hb
  rw [r_Add _ _ a1 a2 b1 b2]; unfold Rt.add ofQ; rw [if_pos ⟨Rt.ok_rat ha, Rt.ok_rat hb⟩, Rt.val_rat, Rt.val_rat]
theorem r_minus_q {a : Rat} (ha : Rt.fits a = true) : g_estoppelref42_Minus (ofQ a) = some (ofQ (-a)) := by
  obtain ⟨a1, a2, a3⟩ := okQ ha
  rw [r_Minus _ a1 a3]; rfl
theorem num_nonneg (r : Rat) : decide ((ofQ r).Num ≥ 0) = decide (0 ≤ r) := by
  unfold ofQ
  rw [decide_eq_decide]; exact Rat.num_nonneg
theorem num_nonpos (r : Rat) : decide ((ofQ r).Num ≤ 0) = !decide (0 < r) := by
  unfold ofQ
  have : (0 < r.num) ↔ 0 < r := by
    have h1 := Rat.num_nonneg (q := r)
    have h2 := Rat.num_eq_zero (q := r)
    rw [Rat.lt_iff_le_and_ne, ← h1]
    constructor
    · intro h; exact ⟨by omega, fun e => by have := h2.2 e.symm; omega⟩
    · rintro ⟨a, b⟩
      have : r.num ≠ 0 := fun e => b (h2.1 e).symm
      omega
  by_cases h : 0 < r
  · have := this.2 h
    simp [h]; omega
  · have : ¬ 0 < r.num := fun h' => h (this.1 h')
    simp [h]; omega
theorem r_Net (m : Int) (l : List D.Debt) (h : ∀ x ∈ l, i64D x) : g_estoppelref42_Net m l = some (netR m (l.map toN)) := by
  unfold g_estoppelref42_Net netR
  rw [r_Positions_own m l h, Option.bind_some]
  cases hv : Nt.valid m (l.map toN)
  · rfl
  obtain ⟨⟨h1, h2⟩, h3, h4⟩ := okL hv
  simp only [if_true]
  cases hp : Nt.posL (l.map toN) m.toNat with
  | none => rfl
  | some ps0 =>
  have hm : ((m.toNat : Nat) : Int) = m := by omega
  have hG0 : Nt.Good m.toNat ps0 := Nt.good_init (by rw [hm]; exact hv) hp
  simp only [Sum.elim_inr, bne_self_eq_false, Bool.false_eq_true, if_false]
  generalize hT0 : Nt.settle (m.toNat + 1) ps0 = T
  generalize hB : (match T with | some out => (out.map ofD, (0 : Int)) | none => (([] : List D.Debt), (2 : Int))) = B
  rw [loopO_eq (σ := List D.Ratio × List D.Debt × Int) (ρ := List D.Debt ⊕ (List D.Debt × Int)) (fun k s => ∃ ps out, Nt.Good m.toNat ps ∧ Nt.nz ps < k ∧ s.1 = ps.map ofQ ∧ s.2.1 = out.map ofD ∧ s.2.2 + k = m + 1 ∧ 0 ≤ s.2.2 ∧ out.length + Nt.nz ps ≤ 12 ∧ (Nt.settle k ps).map (out ++ ·) = T) (.inr B) ?_ (k := m.toNat + 1) ⟨ps0, [], hG0, ?_, rfl, rfl, ?_, ?_, ?_, ?_⟩ (by omega)]
  · subst hB; rfl
  · rintro k ⟨s1, s2, s3⟩ ⟨ps, out, hG, hk, h1', h2', h3', h4', hlen, hT⟩
    simp only at h1' h2' h3' h4'; subst h1'; subst h2'
    have hd := hG.dlt
    have hc := hG.clt
    rw [← hG.len] at hd hc
    have fd := hG.fit _ (Nt.getD_mem hd)
    have fc := hG.fit _ (Nt.getD_mem hc)
    have fx := hG.fitX
    simp only [show decide (s3 ≤ m) = true from decide_eq_true (by omega), if_true, r_min hG (by omega), r_max hG (by omega), getI_q hd, getI_q hc, Option.bind_some, num_nonneg, num_nonpos]
    obtain ⟨k, rfl⟩ : ∃ k', k = k' + 1 := ⟨k - 1, by omega⟩
    unfold Nt.settle at hT
    by_cases hz : ps.getD (Nt.dmin ps) 0 = 0
    · right
      rw [if_pos hz] at hT
      rw [← hB, ← hT]
      simp only [hz, Rat.le_refl, decide_true, if_true, bindF_l, Option.map_some, List.append_nil]
    · rw [if_neg hz] at hT
      have hne := hG.ne hz
      obtain ⟨n1, n2⟩ := hG.neg hz
      simp only [show decide (0 ≤ ps.getD (Nt.dmin ps) 0) = false from decide_eq_false (Rat.not_le.2 n1), show decide (0 < ps.getD (Nt.cmax ps) 0) = true from decide_eq_true n2, Bool.not_true, Bool.false_eq_true, if_false, bindF_l, r_minus_q fd, Option.bind_some, r_cmp_q (Nt.fits_neg fd) fc]
      have hx : (if decide (Nt.cmpR (-ps.getD (Nt.dmin ps) 0) (ps.getD (Nt.cmax ps) 0) < 0) = true then some (.inl (out.map ofD, ofQ (-ps.getD (Nt.dmin ps) 0))) else some (.inl (out.map ofD, ofQ (ps.getD (Nt.cmax ps) 0))) : Option ((List D.Debt × D.Ratio) ⊕ ((List D.Ratio × List D.Debt × Int) ⊕ (List D.Debt ⊕ (List D.Debt × Int))))) = some (.inl (out.map ofD, ofQ (Nt.amtX ps))) := by
        unfold Nt.cmpR Nt.amtX
        generalize ps.getD (Nt.dmin ps) 0 = a
        generalize ps.getD (Nt.cmax ps) 0 = b
        by_cases c1 : -a < b
        · simp [c1]
        · simp only [c1, if_false]
          split <;> rfl
      simp only [hx, bindF_l, r_add_q fd fx, r_minus_q fx, r_add_q fc (Nt.fits_neg fx), Option.bind_some, getI_set_ne hne, getI_q hc, asR_fit, ← Rat.sub_eq_add_neg]
      by_cases f1 : Rt.fits (ps.getD (Nt.dmin ps) 0 + Nt.amtX ps) = true
      · by_cases f2 : Rt.fits (ps.getD (Nt.cmax ps) 0 - Nt.amtX ps) = true
        · left
          have hg : Nt.goes ps := ⟨f1, f2⟩
          rw [if_pos hg] at hT
          have hl' := hG.less hz
          refine ⟨((Nt.next ps).map ofQ, (out ++ [Nt.pay ps]).map ofD, s3 + 1), k, ?_, by omega, Nt.next ps, out ++ [Nt.pay ps], hG.next hz hg, by omega, rfl, rfl, by simp only; omega, by simp only; omega, by simp; omega, ?_⟩
          · have ha : appO 32 (out.map ofD) [D.Debt.mk ((Nt.dmin ps : Nat) : Int) ((Nt.cmax ps : Nat) : Int) (ofQ (Nt.amtX ps))] = some ((out ++ [Nt.pay ps]).map ofD) := by
              unfold appO
              rw [if_pos (by simp; omega), List.map_append]; rfl
            simp only [f1, f2, if_true, bne_self_eq_false, Bool.false_eq_true, if_false, bindF_l, setI_q, ha, Option.bind_some]
            rw [wrapI _ (by omega) (by omega)]
            rfl
          · rw [← hT, Option.map_map]; congr 1; funext z; simp
        · right
          have hg : ¬ Nt.goes ps := fun h => f2 h.2
          rw [if_neg hg] at hT
          rw [← hB, ← hT]
          simp only [f1, f2, if_true, if_false, Bool.false_eq_true, bne_self_eq_false, show ((2 : Int) != 0) = true from rfl, bindF_l, Option.map_none]
      · right
        have hg : ¬ Nt.goes ps := fun h => f1 h.1
        rw [if_neg hg] at hT
        rw [← hB, ← hT]
        simp only [f1, if_true, if_false, Bool.false_eq_true, show ((2 : Int) != 0) = true from rfl, bindF_l, Option.map_none]
  · have := Nt.nz_le ps0; have := hG0.len; omega
  · simp only; omega
  · simp only; omega
  · have := Nt.nz_le ps0; have := hG0.len; simp; omega
  · rw [hT0]; cases T <;> simp
end Go.Proofs.Ytgggekjhfdkgkaa.Ab
end
section
namespace Go.Proofs.Ytgggekjhfdkgkaa.Nt
open Rt
theorem outK_skip {l : List Debt} {n k1 : Nat} : ∀ k2, k1 ≤ k2 → (∀ k, k1 ≤ k → k < k2 → gv l n (k / 12) (k % 12) = (0, 0)) → outK l n k2 = outK l n k1
  | 0, h, _ => by rw [show k1 = 0 by omega]
  | k2 + 1, h, hz => by
    by_cases e : k1 = k2 + 1
    · rw [e]
    · rw [outK_next, hz k2 (by omega) (by omega), outK_skip k2 (by omega) (fun k a b => hz k a (by omega))]
      simp [dOf]
theorem outK_row {l : List Debt} {n a : Nat} (ha : a < 12) : outK l n (a * 12 + (a + 1)) = outK l n (a * 12) :=
  outK_skip _ (by omega) fun k h1 h2 => gv_out (by rw [show k / 12 = a by omega]; omega)
theorem outK_end {l : List Debt} {n a : Nat} (hn : n ≤ 12) : outK l n ((a + 1) * 12) = outK l n (a * 12 + n) :=
  outK_skip _ (by omega) fun k h1 h2 => gv_out (by omega)
theorem outK_all {l : List Debt} {n : Nat} (hn : n ≤ 12) : outK l n 144 = outK l n (n * 12) :=
  outK_skip _ (by omega) fun k h1 h2 => gv_out (by omega)
theorem sumO_filter {s s' : Debt → Int} {p : Debt → Bool} : ∀ {l : List Debt} {r : Rat}, fits r = true → (∀ x ∈ l, p x = true → s x = s' x) → (∀ x ∈ l, p x = false → s' x = 0) → sumO s (l.filter p) r = sumO s' l r
  | [], _, _, _, _ => rfl
  | x :: l, r, hf, h1, h2 => by
    have i1 := fun y hy => h1 y (List.mem_cons_of_mem x hy)
    have i2 := fun y hy => h2 y (List.mem_cons_of_mem x hy)
    cases hp : p x
    · rw [List.filter_cons_of_neg (by simp [hp])]
      have e : r + sg (s' x) x.amt = r := by rw [h2 x List.mem_cons_self hp]; unfold sg; simp; grind
      rw [sumO, e, if_pos hf]
      exact sumO_filter hf i1 i2
    · rw [List.filter_cons_of_pos (by simp [hp]), sumO, sumO, h1 x List.mem_cons_self hp]
      split
      · rename_i hf'; exact sumO_filter hf' i1 i2
      · rfl
def btw (a b : Int) (x : Debt) : Bool := decide (x.f = a ∧ x.t = b ∨ x.f = b ∧ x.t = a)
theorem pos_btw {a b : Int} (h : a ≠ b) (l : List Debt) : pos (l.filter (btw a b)) b = pair l a b := by
  unfold pos pair
  refine sumO_filter zero_fits (fun x _ hx => ?_) (fun x _ hx => ?_)
  · have := of_decide_eq_true hx
    unfold sgnP sgnQ
    rcases this with ⟨h1, h2⟩ | ⟨h1, h2⟩
    · rw [if_pos h2.symm, if_pos ⟨h1, h2⟩]
    · rw [if_neg (by omega), if_pos h1.symm, if_neg (by omega), if_pos ⟨h1, h2⟩]
  · have := of_decide_eq_false hx
    unfold sgnQ
    rw [if_neg (fun e => this (.inl e)), if_neg (fun e => this (.inr e))]
end Go.Proofs.Ytgggekjhfdkgkaa.Nt
namespace Go.Proofs.Ytgggekjhfdkgkaa.Ab
open Go
theorem r_between (l : List D.Debt) (a b : Int) (hl : l.length ≤ 400) : g_estoppelref42_between l a b = some (l.filter fun x => Nt.btw a b (toN x)) := by
  unfold g_estoppelref42_between
  rw [range_eq (σ := List D.Debt × Int) (ρ := List D.Debt ⊕ List D.Debt) (fun s => s.2) l.length (fun i s => s.1 = (l.take i).filter fun x => Nt.btw a b (toN x)) (.inl (l.filter fun x => Nt.btw a b (toN x)))
    (fun i s hi hs h1 => by
      obtain ⟨s1, s2⟩ := s
      simp only at hs h1; subst hs; subst h1
      left
      have hg : getI l (i : Int) = some l[i] := by rw [getI_nat, List.getElem?_eq_getElem hi]
      have hlen : ((l.take i).filter fun x => Nt.btw a b (toN x)).length ≤ i := Nat.le_trans (List.length_filter_le _ _) (by rw [List.length_take]; omega)
      have hx : ∀ (q : List D.Debt), (if (l[i].From == a) = true then if (l[i].To == b) = true then some (.inl (q, true)) else if (l[i].From == b) = true then some (.inl (q, (l[i].To == a))) else some (.inl (q, false)) else if (l[i].From == b) = true then some (.inl (q, (l[i].To == a))) else some (.inl (q, false)) : Option ((List D.Debt × Bool) ⊕ ((List D.Debt × Int) ⊕ (List D.Debt ⊕ List D.Debt)))) = some (.inl (q, Nt.btw a b (toN l[i]))) := fun q => by
        unfold Nt.btw toN
        by_cases c1 : l[i].From = a <;> by_cases c2 : l[i].To = b <;> by_cases c3 : l[i].From = b <;> by_cases c4 : l[i].To = a <;> simp_all
      simp only [lt_dec hi, if_true, hg, Option.bind_some, hx, bindF_l]
      rw [inc i (by omega)]
      refine ⟨((l.take (i + 1)).filter fun x => Nt.btw a b (toN x), ((i + 1 : Nat) : Int)), ?_, rfl, rfl⟩
      rw [List.take_succ_eq_append_getElem hi, List.filter_append]
      cases hb : Nt.btw a b (toN l[i])
      · simp [hb]
      · have : appO 32 ((l.take i).filter fun x => Nt.btw a b (toN x)) [l[i]] = some (((l.take i).filter fun x => Nt.btw a b (toN x)) ++ [l[i]]) := by
          unfold appO; rw [if_pos (by simp only [List.length_cons, List.length_nil]; omega)]
        simp [hb, this])
    (fun s hs h1 => by
      obtain ⟨s1, s2⟩ := s
      simp only at hs h1; subst hs; subst h1
      simp) (i := 0) rfl (by simp) (by omega) (by omega)]
  rfl
theorem r_between_pos (l : List D.Debt) (a b : Nat) (hab : a < b) (hl : l.length ≤ 400) (hok : ∀ x ∈ l, Rt.ok x.Amount.Num x.Amount.Den = true) : g_estoppelref42_position (l.filter fun x => Nt.btw a b (toN x)) b = some (asR (Nt.res (Nt.pair (l.map toN) a b))) := by
  rw [r_position _ _ (Nat.le_trans (List.length_filter_le _ _) hl) (fun x hx => hok x (List.mem_filter.1 hx).1)]
  rw [← Nt.pos_btw (show (a : Int) ≠ b by omega), List.filter_map]; rfl
theorem r_inner (l : List D.Debt) (n a : Nat) (ha : a < n) (hn : n ≤ 12) (hl : l.length ≤ 400) (hok : ∀ x ∈ l, Rt.ok x.Amount.Num x.Amount.Den = true) :
    ∃ r, loopO (σ := List D.Debt × Int) (ρ := (List D.Debt × Int) ⊕ (List D.Debt ⊕ (List D.Debt × Int))) (fun s =>
      if (decide (s.2 < (n : Int))) = true then
      (g_estoppelref42_between l (a : Int) s.2).bind fun y =>
      (g_estoppelref42_position y s.2).bind fun x =>
      if (x.2 != 0) = true then some (.inr (.inr (.inr ([], x.2)))) else
      bindF (ρ := List D.Debt) (
      if (decide (x.1.Num > 0)) = true then
      (appO 32 s.1 [(D.Debt.mk (a : Int) s.2 x.1)]).bind fun z => some (.inl z)
      else some (.inl s.1)) (fun (e : List D.Debt) =>
      if (decide (x.1.Num < 0)) = true then
      (g_estoppelref42_Minus x.1).bind fun w =>
      (appO 32 e [(D.Debt.mk s.2 (a : Int) w)]).bind fun z => some (.inl (z, (IntKind.i64.wrap (s.2 + 1))))
      else some (.inl (e, (IntKind.i64.wrap (s.2 + 1)))))
      else some (.inr (.inl (s.1, (IntKind.i64.wrap ((a : Int) + 1)))))) ((Nt.outK (l.map toN) n (a * 12)).map ofD, (IntKind.i64.wrap ((a : Int) + 1))) = some r ∧
      ((r = .inl ((Nt.outK (l.map toN) n ((a + 1) * 12)).map ofD, ((a + 1 : Nat) : Int)) ∧ ∀ b : Nat, a < b → b < n → (Nt.pair (l.map toN) a b).isSome = true) ∨ (r = .inr (.inr ([], 2)) ∧ ∃ b : Nat, a < b ∧ b < n ∧ Nt.pair (l.map toN) a b = none)) := by
  refine range_rule (fun s => s.2) n (fun b s => a < b ∧ s.1 = (Nt.outK (l.map toN) n (a * 12 + b)).map ofD ∧ ∀ b' : Nat, a < b' → b' < b → (Nt.pair (l.map toN) a b').isSome = true) _ (fun b s hb hs ⟨hab, h1, hall⟩ => ?_) (fun s hs ⟨hab, h1, hall⟩ => ?_) (i := a + 1) (inc a (by omega)) ⟨by omega, by rw [Nt.outK_row (by omega)], fun b' _ _ => by omega⟩ (by omega) (by omega)
  · obtain ⟨s1, s2⟩ := s
    simp only at hs h1; subst hs; subst h1
    simp only [lt_dec hb, if_true, r_between l a b hl, Option.bind_some, r_between_pos l a b hab hl hok]
    cases hp : Nt.pair (l.map toN) a b with
    | none => exact .inr ⟨_, rfl, .inr ⟨rfl, b, hab, hb, hp⟩⟩
    | some r =>
      left
      have hk := Nt.outK_len (l.map toN) n (a * 12 + b)
      have hnx := Nt.outK_next (l.map toN) n (a * 12 + b)
      rw [show (a * 12 + b) / 12 = a by omega, show (a * 12 + b) % 12 = b by omega, Nt.gv_some hab hb hp] at hnx
      have hfit := Nt.sumO_fits Nt.zero_fits hp
      have happ : ∀ d, appO 32 ((Nt.outK (l.map toN) n (a * 12 + b)).map ofD) [d] = some ((Nt.outK (l.map toN) n (a * 12 + b)).map ofD ++ [d]) := fun d => by
        unfold appO; rw [if_pos (by simp; omega)]
      refine ⟨((Nt.outK (l.map toN) n (a * 12 + (b + 1))).map ofD, ((b + 1 : Nat) : Int)), ?_, rfl, by omega, rfl, fun b' h1 h2 => ?_⟩
      · show (if ((0 : Int) != 0) = true then _ else _) = _
        simp only [bne_self_eq_false, Bool.false_eq_true, if_false]
        rw [inc b (by omega), show a * 12 + (b + 1) = a * 12 + b + 1 by omega, hnx, List.map_append]
        show bindF (ρ := List D.Debt) (if (decide ((ofQ r).Num > 0)) = true then _ else _) (fun e => if (decide ((ofQ r).Num < 0)) = true then (g_estoppelref42_Minus (ofQ r)).bind _ else _) = _
        rw [r_minus_q hfit]
        have d1 : (asR (Nt.res (some r))).1 = ofQ r := rfl
        have d2 : (ofQ r).Num = r.num := rfl
        simp only [d1, d2, Option.bind_some, happ]
        unfold Nt.dOf
        by_cases c1 : 0 < r.num
        · have c2 : ¬ r.num < 0 := by omega
          simp only [show decide (r.num > 0) = true from decide_eq_true c1, c1, c2, decide_false, Bool.false_eq_true, if_true, if_false, bindF_l]
          rfl
        · by_cases c2 : r.num < 0
          · simp only [show decide (r.num > 0) = false from decide_eq_false c1, c1, c2, decide_true, decide_false, Bool.false_eq_true, if_true, if_false, bindF_l, happ, Option.bind_some]
            rfl
          · simp only [show decide (r.num > 0) = false from decide_eq_false c1, c1, c2, decide_false, Bool.false_eq_true, if_false, bindF_l, List.map_nil, List.append_nil]
      · by_cases e : b' = b
        · subst e; rw [hp]; rfl
        · exact hall b' h1 (by omega)
  · obtain ⟨s1, s2⟩ := s
    simp only at hs h1; subst hs; subst h1
    refine ⟨.inl ((Nt.outK (l.map toN) n (a * 12 + n)).map ofD, (IntKind.i64.wrap ((a : Int) + 1))), by simp only [Int.lt_irrefl, decide_false, Bool.false_eq_true, if_false], .inl ⟨?_, hall⟩⟩
    rw [inc a (by omega), Nt.outK_end hn]
theorem r_Pairs (m : Int) (l : List D.Debt) (h : ∀ x ∈ l, i64D x) : g_estoppelref42_Pairs m l = some (pairsR m (l.map toN)) := by
  unfold g_estoppelref42_Pairs pairsR
  rw [r_nValid m l h, Option.bind_some]
  cases hv : Nt.valid m (l.map toN)
  · rfl
  obtain ⟨⟨h1, h2⟩, h3, h4⟩ := okL hv
  simp only [Bool.not_true, Bool.false_eq_true, if_false, if_true]
  obtain ⟨n, rfl⟩ : ∃ n : Nat, m = n := ⟨m.toNat, by omega⟩
  rw [Int.toNat_natCast]
  obtain ⟨r, hr, hq⟩ := range_rule (ρ := List D.Debt ⊕ (List D.Debt × Int)) (body := fun (s : List D.Debt × Int) =>
      if (decide (s.2 < (n : Int))) = true then
      loopO (σ := List D.Debt × Int) (fun s' =>
      if (decide (s'.2 < (n : Int))) = true then
      (g_estoppelref42_between l s.2 s'.2).bind fun y =>
      (g_estoppelref42_position y s'.2).bind fun x =>
      if (x.2 != 0) = true then some (.inr (.inr (.inr ([], x.2)))) else
      bindF (ρ := List D.Debt) (
      if (decide (x.1.Num > 0)) = true then
      (appO 32 s'.1 [(D.Debt.mk s.2 s'.2 x.1)]).bind fun z => some (.inl z)
      else some (.inl s'.1)) (fun (e : List D.Debt) =>
      if (decide (x.1.Num < 0)) = true then
      (g_estoppelref42_Minus x.1).bind fun w =>
      (appO 32 e [(D.Debt.mk s'.2 s.2 w)]).bind fun z => some (.inl (z, (IntKind.i64.wrap (s'.2 + 1))))
      else some (.inl (e, (IntKind.i64.wrap (s'.2 + 1)))))
      else some (.inr (.inl (s'.1, (IntKind.i64.wrap (s.2 + 1)))))) (s.1, (IntKind.i64.wrap (s.2 + 1)))
      else some (.inr (.inl s.1))) (fun s => s.2) n (fun a s => s.1 = (Nt.outK (l.map toN) n (a * 12)).map ofD ∧ ∀ a' b : Nat, a' < a → a' < b → b < n → (Nt.pair (l.map toN) a' b).isSome = true)
      (fun r => (r = .inl ((Nt.outK (l.map toN) n 144).map ofD) ∧ Nt.pairsB (l.map toN) n = true) ∨ (r = .inr ([], 2) ∧ Nt.pairsO (l.map toN) n = none))
      (fun a s ha hs ⟨h1, hall⟩ => by
        obtain ⟨s1, s2⟩ := s
        simp only at hs h1; subst hs; subst h1
        obtain ⟨r, hr, hq⟩ := r_inner l n a ha (by omega) h3 h4
        simp only [lt_dec ha, if_true, hr]
        rcases hq with ⟨rfl, hq⟩ | ⟨rfl, b, hab, hb, hq⟩
        · refine .inl ⟨_, rfl, rfl, rfl, fun a' b h1 h2 h3 => ?_⟩
          by_cases e : a' = a
          · subst e; exact hq b h2 h3
          · exact hall a' b (by omega) h2 h3
        · exact .inr ⟨_, rfl, .inr ⟨rfl, Nt.pairsO_none hab hb hq⟩⟩)
      (fun s hs ⟨h1, hall⟩ => by
        obtain ⟨s1, s2⟩ := s
        simp only at hs h1; subst hs; subst h1
        refine ⟨.inl ((Nt.outK (l.map toN) n (n * 12)).map ofD), by simp only [Int.lt_irrefl, decide_false, Bool.false_eq_true, if_false], .inl ⟨by rw [Nt.outK_all (by omega)], Nt.pairsB_iff.2 fun a b h1 h2 => hall a b (by omega) h1 h2⟩⟩)
      (s := ([], 0)) (i := 0) rfl ⟨rfl, fun a' b h => by omega⟩ (by omega) (by omega)
  rw [hr]
  rcases hq with ⟨rfl, hq⟩ | ⟨rfl, hq⟩
  · have hP : Nt.pairsO (l.map toN) n = some (Nt.outK (l.map toN) n 144) := by unfold Nt.pairsO; rw [if_pos hq]
    rw [hP]; rfl
  · rw [hq]; rfl
end Go.Proofs.Ytgggekjhfdkgkaa.Ab
end
