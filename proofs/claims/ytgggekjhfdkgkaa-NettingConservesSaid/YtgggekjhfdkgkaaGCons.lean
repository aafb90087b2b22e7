/- NettingConserves answers true, in plain Lean. -/
import Derived.Test.YtgggekjhfdkgkaaGOrder
import Derived.Test.YtgggekjhfdkgkaaDx17
namespace Go.Proofs.Ytgggekjhfdkgkaa.Ab
open Go
theorem upto_ind (z : Nat) (v : Rat) : ∀ n, Nt.upto (fun k => if k = z then v else 0) n = if z < n then v else 0
  | 0 => by simp [Nt.upto]
  | n + 1 => by
    unfold Nt.upto; rw [upto_ind z v n]
    by_cases h : z < n
    · rw [if_pos h, if_neg (by omega), if_pos (by omega)]; grind
    · by_cases e : n = z
      · subst e; rw [if_neg h, if_pos rfl, if_pos (by omega)]; grind
      · rw [if_neg h, if_neg e, if_neg (by omega)]; grind
theorem upto_congr {f g : Nat → Rat} : ∀ {n : Nat}, (∀ k, k < n → f k = g k) → Nt.upto f n = Nt.upto g n
  | 0, _ => rfl
  | n + 1, h => by unfold Nt.upto; rw [upto_congr (fun k hk => h k (by omega)), h n (by omega)]
/-- What p gets from j. -/
def cross (p : Nat) (l : List Nt.Debt) (j : Nat) : Rat := if j < p then Nt.sumR (Nt.sgnQ j p) l else if p < j then -(Nt.sumR (Nt.sgnQ p j) l) else 0
theorem cross_cons (p : Nat) (x : Nt.Debt) (l : List Nt.Debt) (j : Nat) : cross p (x :: l) j = cross p [x] j + cross p l j := by
  unfold cross
  simp only [Nt.sumR]
  by_cases h : j < p
  · simp only [h, if_true]; grind
  · by_cases h' : p < j
    · simp only [h, h', if_true, if_false]; grind
    · simp only [h, h', if_false]; grind
theorem cross_one (n p : Nat) (x : Nt.Debt) (hx : Nt.okD n x = true) : Nt.upto (cross p [x]) n = Nt.sg (Nt.sgnP p x) x.amt := by
  obtain ⟨⟨a1, a2⟩, ⟨b1, b2⟩, c, _⟩ := Nt.okD_iff.1 hx
  obtain ⟨f, t, q, d⟩ := x
  simp only at a1 a2 b1 b2 c
  obtain ⟨f, rfl⟩ : ∃ k : Nat, f = k := ⟨f.toNat, by omega⟩
  obtain ⟨t, rfl⟩ : ∃ k : Nat, t = k := ⟨t.toNat, by omega⟩
  generalize hA : (Nt.Debt.mk f t q d).amt = A
  have hc : ∀ j, cross p [⟨f, t, q, d⟩] j = if p = t then (if j = f then A else 0) else if p = f then (if j = t then -A else 0) else 0 := fun j => by
    unfold cross Nt.sgnQ
    simp only [Nt.sumR, hA, Nt.sg]
    grind
  by_cases pt : p = t
  · have : Nt.sgnP p ⟨f, t, q, d⟩ = 1 := by unfold Nt.sgnP; rw [if_pos (by simp only; omega)]
    rw [this, upto_congr (g := fun j => if j = f then A else 0) (fun j _ => by rw [hc j, if_pos pt]), upto_ind, if_pos (by omega)]
    unfold Nt.sg; rw [if_pos rfl]
  · by_cases pf : p = f
    · have : Nt.sgnP p ⟨f, t, q, d⟩ = -1 := by unfold Nt.sgnP; rw [if_neg (by simp only; omega), if_pos (by simp only; omega)]
      rw [this, upto_congr (g := fun j => if j = t then -A else 0) (fun j _ => by rw [hc j, if_neg pt, if_pos pf]), upto_ind, if_pos (by omega)]
      unfold Nt.sg; rw [if_neg (by decide), if_pos rfl]
    · have : Nt.sgnP p ⟨f, t, q, d⟩ = 0 := by unfold Nt.sgnP; rw [if_neg (by simp only; omega), if_neg (by simp only; omega)]
      rw [this, upto_congr (g := fun _ => 0) (fun j _ => by rw [hc j, if_neg pt, if_neg pf]), Nt.upto_zero _ (fun _ => rfl)]
      unfold Nt.sg; rw [if_neg (by decide), if_neg (by decide)]
theorem cross_all (n p : Nat) : ∀ l : List Nt.Debt, (∀ x ∈ l, Nt.okD n x = true) → Nt.upto (cross p l) n = Nt.sumR (Nt.sgnP p) l
  | [], _ => by
    rw [upto_congr (g := fun _ => 0) (fun j _ => by unfold cross; simp only [Nt.sumR]; grind), Nt.upto_zero _ (fun _ => rfl)]; rfl
  | x :: l, h => by
    rw [upto_congr (g := fun j => cross p [x] j + cross p l j) (fun j _ => cross_cons p x l j), Nt.upto_add, cross_one n p x (h x (List.mem_cons_self ..)), cross_all n p l (fun y hy => h y (List.mem_cons_of_mem _ hy))]
    rfl
theorem pairs_pos {l out : List Nt.Debt} {n : Nat} (hv : Nt.valid n l = true) (h : Nt.pairsO l n = some out) (p : Nat) (hp : p < n) : Nt.sumR (Nt.sgnP p) out = Nt.sumR (Nt.sgnP p) l := by
  have hn : n ≤ 12 := by have := (Nt.valid_iff.1 hv).1; omega
  have hv2 := Nt.pairs_valid hv h
  rw [← cross_all n p l (Nt.valid_iff.1 hv).2.2, ← cross_all n p out (Nt.valid_iff.1 hv2).2.2]
  have hq : ∀ i j : Nat, i < j → j < n → Nt.sumR (Nt.sgnQ i j) out = Nt.sumR (Nt.sgnQ i j) l := fun i j h1 h2 => by
    unfold Nt.pairsO at h
    split at h
    · rename_i hB
      injection h with h
      obtain ⟨v, hv⟩ := Option.isSome_iff_exists.1 (Nt.pairsB_iff.1 hB i j h1 h2)
      have e := Nt.outK_sum hn hB i j h1 h2 v hv 144 (Nat.le_refl _)
      rw [if_pos (by omega), h] at e
      have e1 := Nt.sumO_exact hv
      have e2 := Nt.sumO_exact e
      grind
    · cases h
  refine upto_congr fun j hj => ?_
  unfold cross
  by_cases c : j < p
  · rw [if_pos c, if_pos c, hq j p c hp]
  · by_cases c' : p < j
    · rw [if_neg c, if_neg c, if_pos c', if_pos c', hq p j c' hj]
    · rw [if_neg c, if_neg c, if_neg c', if_neg c']
theorem add_i64 (a b c d : Int) : i64B (asR (Rt.add a b c d)).1.Num ∧ i64B (asR (Rt.add a b c d)).1.Den := by
  have hf : ∀ r, i64B (asR (Rt.fit r)).1.Num ∧ i64B (asR (Rt.fit r)).1.Den := fun r => by
    rw [asR_fit]
    by_cases h : Rt.fits r = true
    · rw [if_pos h]; exact ⟨(okQ h).1, (okQ h).2.1⟩
    · rw [if_neg h]; exact ⟨by unfold i64B; simp only; omega, by unfold i64B; simp only; omega⟩
  unfold Rt.add
  split
  · exact hf _
  · exact ⟨by unfold i64B asR; simp only; omega, by unfold i64B asR; simp only; omega⟩
theorem zero_loop {τ : Type} (ps : List Rat) (h : ps.length ≤ 12) (hf : ∀ r ∈ ps, Rt.fits r = true) (ht : Nt.total ps = 0) : ∃ a f, loopO (σ := D.Ratio × Bool × Int) (ρ := (D.Ratio × Bool) ⊕ τ) (fun s =>
      if (decide (s.2.2 < ((ps.map ofQ).length : Int))) = true then
      (getI (ps.map ofQ) s.2.2).bind fun x =>
      (g_ratio_Add s.1 x).bind fun y =>
      if s.2.1 = true then some (.inl (y.1, (y.2 == 0), (IntKind.i64.wrap (s.2.2 + 1))))
      else some (.inl (y.1, false, (IntKind.i64.wrap (s.2.2 + 1))))
      else some (.inr (.inl (s.1, s.2.1)))) ((D.Ratio.mk 0 1), true, 0) = some (.inl (a, f)) ∧ (f = true → a.Num = 0) := by
  obtain ⟨r, hr, a, f, rfl, hq⟩ := range_rule (σ := D.Ratio × Bool × Int) (ρ := (D.Ratio × Bool) ⊕ τ) (body := fun s =>
      if (decide (s.2.2 < ((ps.map ofQ).length : Int))) = true then
      (getI (ps.map ofQ) s.2.2).bind fun x =>
      (g_ratio_Add s.1 x).bind fun y =>
      if s.2.1 = true then some (.inl (y.1, (y.2 == 0), (IntKind.i64.wrap (s.2.2 + 1))))
      else some (.inl (y.1, false, (IntKind.i64.wrap (s.2.2 + 1))))
      else some (.inr (.inl (s.1, s.2.1)))) (fun s => s.2.2) ps.length
      (fun i s => i64B s.1.Num ∧ i64B s.1.Den ∧ (s.2.1 = true → ∃ r : Rat, Rt.fits r = true ∧ s.1 = ofQ r ∧ r = Nt.total (ps.take i)))
      (fun r => ∃ a f, r = .inl (a, f) ∧ (f = true → a.Num = 0))
      (fun i s hi hs ⟨b1, b2, hI⟩ => by
        obtain ⟨s1, s2, s3⟩ := s
        simp only at hs b1 b2 hI; subst hs
        obtain ⟨c1, c2, _⟩ := okQ (hf _ (Nt.getD_mem hi))
        left
        simp only [List.length_map, lt_dec hi, if_true, getI_q hi, Option.bind_some, g_Add _ _ b1 b2 c1 c2]
        rw [inc i (by omega)]
        obtain ⟨d1, d2⟩ := add_i64 s1.Num s1.Den (ofQ (ps.getD i 0)).Num (ofQ (ps.getD i 0)).Den
        cases s2 with
        | false => exact ⟨_, rfl, rfl, d1, d2, fun h => by simp at h⟩
        | true =>
          refine ⟨_, rfl, rfl, d1, d2, fun h => ?_⟩
          obtain ⟨r, hr, rfl, hrt⟩ := hI rfl
          have e : Rt.add (ofQ r).Num (ofQ r).Den (ofQ (ps.getD i 0)).Num (ofQ (ps.getD i 0)).Den = Rt.fit (r + ps.getD i 0) := by
            unfold Rt.add ofQ; rw [if_pos ⟨Rt.ok_rat hr, Rt.ok_rat (hf _ (Nt.getD_mem hi))⟩, Rt.val_rat, Rt.val_rat]
          rw [e, asR_fit] at h ⊢
          by_cases hfit : Rt.fits (r + ps.getD i 0) = true
          · rw [if_pos hfit] at h ⊢
            refine ⟨_, hfit, rfl, ?_⟩
            have e : ps.getD i 0 = ps[i] := by simp [List.getD_eq_getElem?_getD, hi]
            rw [List.take_succ_eq_append_getElem hi, Nt.total_append, hrt, e]
            show _ = Nt.total (ps.take i) + (ps[i] + 0)
            grind
          · rw [if_neg hfit] at h; simp at h)
      (fun s hs ⟨b1, b2, hI⟩ => by
        obtain ⟨s1, s2, s3⟩ := s
        simp only at hs b1 b2 hI; subst hs
        refine ⟨.inl (s1, s2), by simp only [List.length_map, Int.lt_irrefl, decide_false, Bool.false_eq_true, if_false], s1, s2, rfl, fun h => ?_⟩
        obtain ⟨r, hr, rfl, hrt⟩ := hI h
        rw [List.take_length, ht] at hrt
        subst hrt; rfl) (s := ((D.Ratio.mk 0 1), true, 0)) (i := 0) rfl ⟨by unfold i64B; simp only; omega, by unfold i64B; simp only; omega, fun _ => ⟨0, Nt.zero_fits, rfl, rfl⟩⟩ (by omega) (by omega)
  exact ⟨a, f, hr, hq⟩
theorem net_cons {n : Nat} {l : List Nt.Debt} {ps : List Rat} (hv : Nt.valid n l = true) (hp : Nt.posL l n = some ps) :
    ∃ out, (netR n l).1 = out.map ofD ∧ (∀ x ∈ out.map ofD, i64D x) ∧ ((netR n l).2 = 2 ∨ (netR n l).2 = 0 ∧ Nt.valid n out = true ∧ ((posR n out).2 = 2 ∨ posR n out = (ps.map ofQ, 0))) := by
  unfold netR
  rw [hv]
  simp only [if_true, Int.toNat_natCast, hp]
  cases hs : Nt.settle (n + 1) ps with
  | none => exact ⟨[], rfl, by simp, .inl rfl⟩
  | some out =>
    have hn : Nt.netO l n = some out := by unfold Nt.netO; rw [hp]; exact hs
    have hv2 := Nt.net_valid hv hp hn
    refine ⟨out, rfl, valid_i64 hv2, .inr ⟨rfl, hv2, ?_⟩⟩
    unfold posR
    rw [hv2]
    simp only [if_true, Int.toNat_natCast]
    cases hq : Nt.posL out n with
    | none => exact .inl rfl
    | some qs => have := Nt.net_pos hv hp hn hq; subst this; exact .inr rfl
theorem pairs_cons {n : Nat} {l : List Nt.Debt} {ps : List Rat} (hv : Nt.valid n l = true) (hp : Nt.posL l n = some ps) :
    ∃ out, (pairsR n l).1 = out.map ofD ∧ (∀ x ∈ out.map ofD, i64D x) ∧ ((pairsR n l).2 = 2 ∨ (pairsR n l).2 = 0 ∧ Nt.valid n out = true ∧ ((posR n out).2 = 2 ∨ posR n out = (ps.map ofQ, 0))) := by
  unfold pairsR
  rw [hv]
  simp only [if_true, Int.toNat_natCast]
  cases hs : Nt.pairsO l n with
  | none => exact ⟨[], rfl, by simp, .inl rfl⟩
  | some out =>
    have hv2 := Nt.pairs_valid hv hs
    refine ⟨out, rfl, valid_i64 hv2, .inr ⟨rfl, hv2, ?_⟩⟩
    unfold posR
    rw [hv2]
    simp only [if_true, Int.toNat_natCast]
    cases hq : Nt.posL out n with
    | none => exact .inl rfl
    | some qs => have := Nt.posL_same hq hp (fun p hpn => pairs_pos hv hs p hpn); subst this; exact .inr rfl
theorem side (n : Nat) (N : Int) (out : List Nt.Debt) (ps : List Rat) (hl : ps.length ≤ 12) (hi : ∀ x ∈ out.map ofD, i64D x) (h : N = 2 ∨ N = 0 ∧ Nt.valid n out = true ∧ ((posR n out).2 = 2 ∨ posR n out = (ps.map ofQ, 0))) :
    (if (N == 0) = true then
      (g_netting_Valid (n : Int) (out.map ofD)).bind fun x =>
      if (!x) = true then some (.inl true) else
      if ((posR n out).2 != 0) = true then
      if ((posR n out).2 != 2) = true then some (.inl true) else
      if ((posR n out).2 == 0) = true then (g_estoppelref42_Ratios (ps.map ofQ) (posR n out).1).bind fun y => some (.inl (!y)) else some (.inl false)
      else
      if ((posR n out).2 == 0) = true then (g_estoppelref42_Ratios (ps.map ofQ) (posR n out).1).bind fun y => some (.inl (!y)) else some (.inl false)
      else some (.inl false) : Option (Bool ⊕ Bool)) = some (.inl false) := by
  rcases h with rfl | ⟨rfl, hv, h⟩
  · rfl
  · rw [g_nValid (n : Int) _ hi, map_toN, hv, g_Ratios _ _ (by simp; omega)]
    rcases h with h | h
    · simp [h]
    · simp [h]
theorem cons_true (m : Int) (l : List D.Debt) (h : ∀ x ∈ l, i64D x) : g_estoppellaw42_NettingConserves m l = some true := by
  unfold g_estoppellaw42_NettingConserves
  rw [head_true, Option.bind_some]
  by_cases hlen : (l.length : Int) > 400
  · rw [if_pos (decide_eq_true hlen)]
  rw [if_neg (by simpa using hlen), g_nPositions m l h, Option.bind_some]
  cases hv : Nt.valid m (l.map toN)
  · have hpr : posR m (l.map toN) = ([], 1) := by unfold posR; rw [hv]; rfl
    rw [hpr]; rfl
  obtain ⟨⟨h1, h2⟩, h3, h4⟩ := okL hv
  obtain ⟨n, rfl⟩ : ∃ n : Nat, m = n := ⟨m.toNat, by omega⟩
  cases hp : Nt.posL (l.map toN) n with
  | none =>
    have hpr : posR n (l.map toN) = ([], 2) := by unfold posR; rw [hv, Int.toNat_natCast, hp]; rfl
    rw [hpr]; rfl
  | some ps =>
  have hpr : posR n (l.map toN) = (ps.map ofQ, 0) := by unfold posR; rw [hv, Int.toNat_natCast, hp]; rfl
  have hG := Nt.good_init hv hp
  have hlen' := hG.len
  rw [hpr]
  simp only [bne_self_eq_false, Bool.false_eq_true, if_false, if_true]
  obtain ⟨a, f, hz, hf⟩ := zero_loop (τ := Bool) ps (by omega) hG.fit hG.sum
  rw [hz]
  simp only [bindF_l]
  rw [g_nNet _ l h, g_nPairs _ l h]
  simp only [Option.bind_some]
  obtain ⟨out, e1, i1, n1⟩ := net_cons hv hp
  obtain ⟨po, e2, i2, n2⟩ := pairs_cons hv hp
  rw [e1, e2, g_nPositions _ _ i1, g_nPositions _ _ i2, map_toN, map_toN]
  simp only [Option.bind_some]
  have hfirst : (if f = true then if (a.Num != 0) = true then some (.inl true) else some (.inl (((ps.map ofQ).length : Int) != (n : Int))) else some (.inl (((ps.map ofQ).length : Int) != (n : Int))) : Option (Bool ⊕ Bool)) = some (.inl false) := by
    have e : ((((ps.map ofQ).length : Int)) != (n : Int)) = false := by simp [hlen']
    rw [e]
    cases f with
    | false => rfl
    | true => simp [hf rfl]
  rw [hfirst]
  simp only [bindF_l, Bool.false_eq_true, if_false]
  rw [side n _ out ps (by omega) i1 n1]
  simp only [bindF_l, Bool.false_eq_true, if_false]
  rw [side n _ po ps (by omega) i2 n2]
  simp only [bindF_l, Bool.false_eq_true, if_false]
  have z1 : (netR n (l.map toN)).2 = 2 ∨ (netR n (l.map toN)).2 = 0 := n1.imp id fun h => h.1
  have z2 : (pairsR n (l.map toN)).2 = 2 ∨ (pairsR n (l.map toN)).2 = 0 := n2.imp id fun h => h.1
  rcases z1 with z1 | z1 <;> rcases z2 with z2 | z2 <;> simp [z1, z2]
end Go.Proofs.Ytgggekjhfdkgkaa.Ab
