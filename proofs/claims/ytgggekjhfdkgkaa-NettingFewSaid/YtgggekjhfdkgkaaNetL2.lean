/- Plain laws of settling: what is settled has the same positions; settling it again changes nothing; so for pairs. -/
import Derived.Test.YtgggekjhfdkgkaaNetL1
namespace Go.Proofs.Ytgggekjhfdkgkaa.Nt
open Rt

theorem pay_amt (ps : List Rat) : (pay ps).amt = amtX ps := by unfold Debt.amt pay; exact val_rat _
theorem settle_pos {n : Nat} : ∀ (f : Nat) (ps : List Rat) (out : List Debt), Good n ps → settle f ps = some out → ∀ p : Nat, p < n → sumR (sgnP p) out = ps.getD p 0
  | 0, ps, out, _, h, p, hp => by cases h
  | f + 1, ps, out, hG, h, p, hp => by
    unfold settle at h
    by_cases hd : ps.getD (dmin ps) 0 = 0
    · rw [if_pos hd] at h
      injection h with h; subst h
      have hz := total_nonneg (fun k hk => by have := hG.dle k (by rw [← hG.len]; exact hk); rw [hd] at this; exact this) hG.sum
      exact (hz p (by rw [hG.len]; exact hp)).symm
    · rw [if_neg hd] at h
      by_cases hg : goes ps
      · rw [if_pos hg] at h
        cases hs : settle f (next ps) with
        | none => rw [hs] at h; cases h
        | some rest =>
          rw [hs] at h
          have ho : out = pay ps :: rest := by simpa using h.symm
          subst ho
          have ih := settle_pos f (next ps) rest (hG.next hd hg) hs p hp
          have hne := hG.ne hd
          unfold sumR
          rw [ih, pay_amt]
          have e1 : (pay ps).t = (cmax ps : Nat) := rfl
          have e2 : (pay ps).f = (dmin ps : Nat) := rfl
          rw [sg_pos, e1, e2]
          unfold next
          by_cases hc : cmax ps = p
          · subst hc
            rw [if_pos rfl, getD_set_self _ (by rw [List.length_set, hG.len]; exact hG.clt)]; grind
          · rw [if_neg (by omega), getD_set_ne _ hc]
            by_cases hdp : dmin ps = p
            · subst hdp
              rw [if_pos rfl, getD_set_self _ (by rw [hG.len]; exact hG.dlt)]; grind
            · rw [if_neg (by omega), getD_set_ne _ hdp]; grind
      · rw [if_neg hg] at h; cases h
theorem settle_amt {n : Nat} : ∀ (f : Nat) (ps : List Rat) (out : List Debt), Good n ps → settle f ps = some out → ∀ x ∈ out, Rt.ok x.n x.d = true ∧ 0 < x.n
  | 0, ps, out, _, h, _, _ => by cases h
  | f + 1, ps, out, hG, h, x, hx => by
    unfold settle at h
    by_cases hd : ps.getD (dmin ps) 0 = 0
    · rw [if_pos hd] at h
      injection h with h; subst h; cases hx
    · rw [if_neg hd] at h
      by_cases hg : goes ps
      · rw [if_pos hg] at h
        cases hs : settle f (next ps) with
        | none => rw [hs] at h; cases h
        | some rest =>
          rw [hs] at h
          have ho : out = pay ps :: rest := by simpa using h.symm
          subst ho
          rcases List.mem_cons.1 hx with rfl | hx
          · refine ⟨ok_rat hG.fitX, ?_⟩
            have ⟨n1, n2⟩ := hG.neg hd
            have hp : 0 < amtX ps := by unfold amtX; split <;> grind
            have hq := hp
            rw [Rat.lt_iff] at hq
            simpa [pay] using hq
          · exact settle_amt f (next ps) rest (hG.next hd hg) hs x hx
      · rw [if_neg hg] at h; cases h
theorem net_valid {l : List Debt} {n : Nat} {ps : List Rat} {out : List Debt} (hv : valid n l = true) (hp : posL l n = some ps) (h : netO l n = some out) : valid n out = true := by
  have hlen := net_len hv hp h
  obtain ⟨_, hw⟩ := net_spec hv hp h
  have h0 := (valid_iff.1 hv).1
  unfold netO at h
  rw [hp] at h
  have ha := settle_amt _ _ _ (good_init hv hp) h
  refine valid_iff.2 ⟨h0, by omega, fun x hx => okD_iff.2 ?_⟩
  obtain ⟨i, j, e1, e2, l1, l2, g1, g2⟩ := hw x hx
  refine ⟨by omega, by omega, fun e => ?_, (ha x hx).1, (ha x hx).2⟩
  have : i = j := by omega
  subst this; grind
theorem posL_get {l : List Debt} : ∀ {n : Nat} {ps : List Rat}, posL l n = some ps → ∀ p : Nat, p < n → pos l p = some (ps.getD p 0)
  | 0, ps, h, p, hp => absurd hp (by omega)
  | n + 1, ps, h, p, hp => by
    unfold posL at h
    cases h1 : posL l n with
    | none => rw [h1] at h; cases h
    | some qs =>
      rw [h1] at h
      cases h2 : pos l n with
      | none => rw [h2] at h; cases h
      | some r =>
        rw [h2] at h; injection h with h; subst h
        have hl := posL_len h1
        by_cases e : p = n
        · subst e
          rw [h2]; congr 1
          rw [List.getD_eq_getElem?_getD, List.getElem?_append_right (by omega), hl]; simp
        · rw [posL_get h1 p (by omega)]; congr 1
          rw [List.getD_eq_getElem?_getD, List.getD_eq_getElem?_getD, List.getElem?_append_left (by omega)]
/-- Two lists of debts with the same exact positions have the same positions, unless one is out of range. -/
theorem posL_same {l l' : List Debt} {n : Nat} {ps ps' : List Rat} (h : posL l n = some ps) (h' : posL l' n = some ps') (he : ∀ p : Nat, p < n → sumR (sgnP p) l = sumR (sgnP p) l') : ps = ps' := by
  apply List.ext_getElem?
  intro p
  have e1 := posL_len h
  have e2 := posL_len h'
  by_cases hp : p < n
  · have a1 := sumO_exact (posL_get h p hp)
    have a2 := sumO_exact (posL_get h' p hp)
    have := he p hp
    rw [List.getElem?_eq_getElem (by omega), List.getElem?_eq_getElem (by omega)]
    congr 1
    have b1 : ps.getD p 0 = ps[p]'(by omega) := by simp [List.getD_eq_getElem?_getD, (by omega : p < ps.length)]
    have b2 : ps'.getD p 0 = ps'[p]'(by omega) := by simp [List.getD_eq_getElem?_getD, (by omega : p < ps'.length)]
    rw [← b1, ← b2, a1, a2, this]
  · rw [List.getElem?_eq_none (by omega), List.getElem?_eq_none (by omega)]
theorem pos_exact {l : List Debt} {n : Nat} {ps : List Rat} (h : posL l n = some ps) (p : Nat) (hp : p < n) : sumR (sgnP p) l = ps.getD p 0 := by
  have := sumO_exact (posL_get h p hp); grind
theorem net_pos {l : List Debt} {n : Nat} {ps ps' : List Rat} {out : List Debt} (hv : valid n l = true) (hp : posL l n = some ps) (h : netO l n = some out) (h' : posL out n = some ps') : ps' = ps := by
  have h2 := h
  unfold netO at h2
  rw [hp] at h2
  have hs := settle_pos _ _ _ (good_init hv hp) h2
  exact posL_same h' hp (fun p hpn => by rw [hs p hpn, pos_exact hp p hpn])
theorem net_again {l : List Debt} {n : Nat} {ps : List Rat} {out : List Debt} (hv : valid n l = true) (hp : posL l n = some ps) (h : netO l n = some out) : netO out n = none ∨ netO out n = some out := by
  cases h' : posL out n with
  | none => left; unfold netO; rw [h']; rfl
  | some ps' =>
    right
    have := net_pos hv hp h h'
    subst this
    unfold netO at h ⊢
    rw [hp] at h
    rw [h']; exact h
/-! pairs of pairs -/
theorem sumO_append {s : Debt → Int} : ∀ (l1 l2 : List Debt) (r : Rat), sumO s (l1 ++ l2) r = (sumO s l1 r).bind (sumO s l2)
  | [], l2, r => rfl
  | x :: l1, l2, r => by
    rw [List.cons_append]
    unfold sumO
    split
    · exact sumO_append l1 l2 _
    · rfl
theorem sgnQ_val (i j a b : Int) (n d : Int) (h1 : i < j) (h2 : a < b) : sgnQ i j ⟨a, b, n, d⟩ = (if a = i ∧ b = j then 1 else 0) ∧ sgnQ i j ⟨b, a, n, d⟩ = (if a = i ∧ b = j then -1 else 0) := by
  unfold sgnQ
  constructor
  · simp only
    by_cases h : a = i ∧ b = j
    · rw [if_pos h, if_pos h]
    · rw [if_neg h, if_neg h, if_neg (by omega)]
  · simp only
    rw [if_neg (by omega)]
    by_cases h : a = i ∧ b = j
    · rw [if_pos (by omega), if_pos h]
    · rw [if_neg (by omega), if_neg h]
theorem dOf_sum (i j a b : Nat) (h1 : i < j) (h2 : a < b) (v r : Rat) (hr : fits r = true) (hf : a = i ∧ b = j → fits (r + v) = true) : sumO (sgnQ i j) (dOf a b (pr v)) r = some (if a = i ∧ b = j then r + v else r) := by
  have hq := fun n d => sgnQ_val (i : Int) j a b n d (by omega) (by omega)
  have hc : ((a : Int) = i ∧ (b : Int) = j) ↔ (a = i ∧ b = j) := by omega
  unfold dOf
  have hsingle : ∀ (x : Debt) (u : Rat), sg (sgnQ i j x) x.amt = u → fits (r + u) = true → sumO (sgnQ i j) [x] r = some (r + u) := fun x u e hu => by
    unfold sumO; rw [e, if_pos hu]; rfl
  by_cases hp : 0 < v.num
  · rw [if_pos hp]
    by_cases hab : a = i ∧ b = j
    · rw [if_pos hab, hsingle _ v ?_ (hf hab)]
      rw [(hq _ _).1, if_pos (hc.2 hab)]
      unfold sg Debt.amt; rw [if_pos rfl]; exact val_rat v
    · rw [if_neg hab, hsingle _ 0 ?_ (by rw [show r + 0 = r by grind]; exact hr)]
      · congr 1; grind
      · rw [(hq _ _).1, if_neg (fun e => hab (hc.1 e))]; unfold sg; rw [if_neg (by decide), if_neg (by decide)]
  · rw [if_neg hp]
    by_cases hn : v.num < 0
    · rw [if_pos hn]
      by_cases hab : a = i ∧ b = j
      · rw [if_pos hab, hsingle _ v ?_ (hf hab)]
        rw [(hq _ _).2, if_pos (hc.2 hab)]
        unfold sg Debt.amt
        rw [if_neg (by decide), if_pos rfl]
        show -(val (-v.num) v.den) = v
        rw [val_neg, val_rat]; grind
      · rw [if_neg hab, hsingle _ 0 ?_ (by rw [show r + 0 = r by grind]; exact hr)]
        · congr 1; grind
        · rw [(hq _ _).2, if_neg (fun e => hab (hc.1 e))]; unfold sg; rw [if_neg (by decide), if_neg (by decide)]
    · rw [if_neg hn]
      have hv0 : v = 0 := Rat.num_eq_zero.1 (by omega)
      subst hv0
      show some r = _
      congr 1
      split <;> grind
theorem gv_some {l : List Debt} {n i j : Nat} {v : Rat} (h1 : i < j) (h2 : j < n) (h : pair l i j = some v) : gv l n i j = pr v := by
  unfold gv; rw [if_pos ⟨h1, h2⟩, h]
theorem gv_out {l : List Debt} {n i j : Nat} (h : ¬ (i < j ∧ j < n)) : gv l n i j = (0, 0) := by unfold gv; rw [if_neg h]
theorem outK_sum {l : List Debt} {n : Nat} (hn : n ≤ 12) (hB : pairsB l n = true) (i j : Nat) (h1 : i < j) (h2 : j < n) (v : Rat) (hv : pair l i j = some v) : ∀ k, k ≤ 144 → sumO (sgnQ i j) (outK l n k) 0 = some (if i * 12 + j < k then v else 0)
  | 0, _ => by rw [if_neg (by omega)]; rfl
  | k + 1, hk => by
    have ih := outK_sum hn hB i j h1 h2 v hv k (by omega)
    have hvf : fits v = true := sumO_fits zero_fits hv
    rw [outK_next, sumO_append, ih]
    show sumO (sgnQ i j) (dOf (k / 12) (k % 12) (gv l n (k / 12) (k % 12))) _ = _
    by_cases hab : k / 12 < k % 12 ∧ k % 12 < n
    · obtain ⟨u, hu⟩ : ∃ u, pair l (k / 12 : Nat) (k % 12 : Nat) = some u := Option.isSome_iff_exists.1 (pairsB_iff.1 hB _ _ hab.1 hab.2)
      rw [gv_some hab.1 hab.2 hu]
      by_cases he : k / 12 = i ∧ k % 12 = j
      · have huv : u = v := by
          obtain ⟨rfl, rfl⟩ := he
          rw [hu] at hv; injection hv
        subst huv
        rw [if_neg (by omega : ¬ i * 12 + j < k), dOf_sum i j _ _ h1 hab.1 u 0 zero_fits (fun _ => by rw [show (0 : Rat) + u = u by grind]; exact hvf), if_pos he, if_pos (by omega)]
        congr 1; grind
      · have hlt : (i * 12 + j < k + 1) = (i * 12 + j < k) := by apply propext; omega
        have hfit : fits (if i * 12 + j < k then v else 0) = true := by split; exact hvf; exact zero_fits
        rw [dOf_sum i j _ _ h1 hab.1 u _ hfit (fun e => absurd e he), if_neg he]
        simp only [hlt]
    · rw [gv_out hab]
      have hlt : (i * 12 + j < k + 1) = (i * 12 + j < k) := by apply propext; omega
      simp only [hlt]
      rfl
theorem pairs_again {l : List Debt} {n : Nat} {out : List Debt} (hn : n ≤ 12) (h : pairsO l n = some out) : pairsO out n = some out := by
  unfold pairsO at h
  split at h
  · rename_i hB
    injection h with h
    have hpair : ∀ i j : Nat, i < j → j < n → pair out i j = pair l i j := fun i j h1 h2 => by
      obtain ⟨v, hv⟩ : ∃ v, pair l i j = some v := Option.isSome_iff_exists.1 (pairsB_iff.1 hB i j h1 h2)
      have := outK_sum hn hB i j h1 h2 v hv 144 (Nat.le_refl _)
      rw [if_pos (by omega), h] at this
      rw [hv]; exact this
    have hB2 : pairsB out n = true := pairsB_iff.2 fun a b h1 h2 => by rw [hpair a b h1 h2]; exact pairsB_iff.1 hB a b h1 h2
    unfold pairsO
    rw [if_pos hB2]
    congr 1
    rw [← h]
    unfold outK
    congr 1
    funext k
    have hgv : gv (outK l n 144) n (k / 12) (k % 12) = gv l n (k / 12) (k % 12) := by
      unfold gv
      by_cases hab : k / 12 < k % 12 ∧ k % 12 < n
      · rw [if_pos hab, if_pos hab, h, hpair _ _ hab.1 hab.2]
      · rw [if_neg hab, if_neg hab]
    unfold outK at hgv
    rw [hgv]
  · cases h
theorem pairs_valid {l : List Debt} {n : Nat} {out : List Debt} (hv : valid n l = true) (h : pairsO l n = some out) : valid n out = true := by
  have h0 := (valid_iff.1 hv).1
  have hlen := pairs_len h
  unfold pairsO at h
  split at h
  · rename_i hB
    injection h with h; subst h
    refine valid_iff.2 ⟨h0, by omega, fun x hx => ?_⟩
    unfold outK at hx
    obtain ⟨k, _, hx⟩ := List.mem_flatMap.1 hx
    by_cases hab : k / 12 < k % 12 ∧ k % 12 < n
    · obtain ⟨u, hu⟩ : ∃ u, pair l (k / 12 : Nat) (k % 12 : Nat) = some u := Option.isSome_iff_exists.1 (pairsB_iff.1 hB _ _ hab.1 hab.2)
      rw [gv_some hab.1 hab.2 hu] at hx
      have huf : fits u = true := sumO_fits zero_fits hu
      unfold dOf at hx
      split at hx
      · have : x = ⟨((k / 12 : Nat) : Int), ((k % 12 : Nat) : Int), u.num, (u.den : Int)⟩ := by simpa using hx
        subst this
        exact okD_iff.2 ⟨by simp only; omega, by simp only; omega, by simp only; omega, ok_rat huf, by assumption⟩
      · split at hx
        · have : x = ⟨((k % 12 : Nat) : Int), ((k / 12 : Nat) : Int), -u.num, (u.den : Int)⟩ := by simpa using hx
          subst this
          exact okD_iff.2 ⟨by simp only; omega, by simp only; omega, by simp only; omega, by rw [ok_neg]; exact ok_rat huf, by simp only at *; omega⟩
        · cases hx
    · rw [gv_out hab] at hx
      unfold dOf at hx
      simp at hx
  · cases h
end Go.Proofs.Ytgggekjhfdkgkaa.Nt
