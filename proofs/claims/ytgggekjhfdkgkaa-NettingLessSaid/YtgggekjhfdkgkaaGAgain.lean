/- NettingAgain answers true, in plain Lean. -/
import Derived.Test.YtgggekjhfdkgkaaGNetC
import Derived.Test.YtgggekjhfdkgkaaDx19
namespace Go.Proofs.Ytgggekjhfdkgkaa.Ab
open Go
theorem head_true : g_estoppellaw42_head = some true := by kernel_rfl
theorem g_Same (a b : List D.Debt) (h : a.length ≤ 1000) : g_estoppelref42_Same a b = some (decide (a = b)) := by
  unfold g_estoppelref42_Same
  by_cases hl : a.length = b.length
  · have : ((a.length : Int) != (b.length : Int)) = false := by simp; omega
    simp only [this, Bool.false_eq_true, if_false]
    obtain ⟨r, hr, hq⟩ := range_rule (ρ := Unit ⊕ Bool) (body := fun (s : Int) =>
      if (decide (s < (a.length : Int))) = true then
      (getI a s).bind fun x => (getI b s).bind fun y =>
      if (decide (x ≠ y)) = true then some (.inr (.inr false)) else some (.inl (IntKind.i64.wrap (s + 1)))
      else some (.inr (.inl ()))) (fun s => s) a.length (fun i _ => a.take i = b.take i)
      (fun r => (r = .inl () ∧ a = b) ∨ (r = .inr false ∧ a ≠ b))
      (fun i s hi hs hJ => by
        subst hs
        have hb : i < b.length := by omega
        simp only [lt_dec hi, if_true, getI_nat, List.getElem?_eq_getElem hi, List.getElem?_eq_getElem hb, Option.bind_some]
        by_cases e : a[i] = b[i]
        · left
          refine ⟨((i + 1 : Nat) : Int), ?_, rfl, ?_⟩
          · simp only [e, ne_eq, not_true_eq_false, decide_false, Bool.false_eq_true, if_false]
            rw [inc i (by omega)]
          · rw [List.take_succ_eq_append_getElem hi, List.take_succ_eq_append_getElem hb, hJ, e]
        · right
          refine ⟨.inr false, by simp only [ne_eq, e, not_false_eq_true, decide_true, if_true], .inr ⟨rfl, fun h => e ?_⟩⟩
          subst h; rfl)
      (fun s hs hJ => by
        subst hs
        refine ⟨.inl (), by simp only [Int.lt_irrefl, decide_false, Bool.false_eq_true, if_false], .inl ⟨rfl, ?_⟩⟩
        rw [List.take_length, hl, List.take_length] at hJ; exact hJ) (s := 0) (i := 0) rfl rfl (by omega) (by omega)
    rw [hr]
    rcases hq with ⟨rfl, hq⟩ | ⟨rfl, hq⟩
    · simp only [bindF_l, hq, decide_true]
    · simp only [bindF_r, hq, decide_false]
  · have : ((a.length : Int) != (b.length : Int)) = true := by simp; omega
    simp only [this, if_true]
    rw [decide_eq_false (fun h => hl (by rw [h]))]
theorem valid_i64 {m : Int} {l : List Nt.Debt} (hv : Nt.valid m l = true) : ∀ x ∈ l.map ofD, i64D x := fun x hx => by
  obtain ⟨y, hy, rfl⟩ := List.mem_map.1 hx
  obtain ⟨⟨h1, h2⟩, _, h3⟩ := Nt.valid_iff.1 hv
  obtain ⟨⟨a1, a2⟩, ⟨b1, b2⟩, _, c, _⟩ := Nt.okD_iff.1 (h3 y hy)
  obtain ⟨d1, d2, _⟩ := okB c
  unfold ofD
  refine ⟨?_, ?_, d1, d2⟩ <;> (unfold i64B; simp only; omega)
theorem map_toN (l : List Nt.Debt) : (l.map ofD).map toN = l := by rw [List.map_map]; exact List.map_id'' (fun _ => rfl) l
/-- What Net gives is none but valid debts. -/
theorem netR_out (m : Int) (l : List Nt.Debt) : ∃ out, (netR m l).1 = out.map ofD ∧ (∀ x ∈ out.map ofD, i64D x) ∧ out.length ≤ 12 ∧ ((netR m l).2 = 0 → (netR m out).2 = 2 ∨ netR m out = (out.map ofD, 0)) := by
  unfold netR
  cases hv : Nt.valid m l
  · exact ⟨[], rfl, by simp, by simp, fun h => by simp at h⟩
  have h12 := (Nt.valid_iff.1 hv).1
  obtain ⟨n, rfl⟩ : ∃ n : Nat, m = n := ⟨m.toNat, by omega⟩
  simp only [if_true, Int.toNat_natCast]
  cases hp : Nt.posL l n with
  | none => exact ⟨[], rfl, by simp, by simp, fun h => by simp at h⟩
  | some ps =>
  cases hs : Nt.settle (n + 1) ps with
  | none => simp only [hs]; exact ⟨[], rfl, by simp, by simp, fun h => by simp at h⟩
  | some out =>
  have hn : Nt.netO l n = some out := by unfold Nt.netO; rw [hp]; exact hs
  have hv2 := Nt.net_valid hv hp hn
  simp only [hs]
  refine ⟨out, rfl, valid_i64 hv2, Nt.net_len hv hp hn, fun _ => ?_⟩
  rw [hv2]
  simp only [if_true]
  rcases Nt.net_again hv hp hn with h | h
  · left
    unfold Nt.netO at h
    cases hq : Nt.posL out n with
    | none => rfl
    | some qs => rw [hq] at h; simp only [Option.bind_some] at h; simp only [h]
  · right
    unfold Nt.netO at h
    cases hq : Nt.posL out n with
    | none => rw [hq] at h; cases h
    | some qs => rw [hq] at h; simp only [Option.bind_some] at h; simp only [h]
theorem pairsR_out (m : Int) (l : List Nt.Debt) : ∃ out, (pairsR m l).1 = out.map ofD ∧ (∀ x ∈ out.map ofD, i64D x) ∧ out.length ≤ 144 ∧ ((pairsR m l).2 = 0 → pairsR m out = (out.map ofD, 0)) := by
  unfold pairsR
  cases hv : Nt.valid m l
  · exact ⟨[], rfl, by simp, by simp, fun h => by simp at h⟩
  have h12 := (Nt.valid_iff.1 hv).1
  obtain ⟨n, rfl⟩ : ∃ n : Nat, m = n := ⟨m.toNat, by omega⟩
  simp only [if_true, Int.toNat_natCast]
  cases hp : Nt.pairsO l n with
  | none => exact ⟨[], rfl, by simp, by simp, fun h => by simp at h⟩
  | some out =>
  have hv2 := Nt.pairs_valid hv hp
  refine ⟨out, rfl, valid_i64 hv2, Nt.pairs_len hp, fun _ => ?_⟩
  rw [hv2, Nt.pairs_again (by omega) hp]
  rfl
theorem again_true (m : Int) (l : List D.Debt) (h : ∀ x ∈ l, i64D x) : g_estoppellaw42_NettingAgain m l = some true := by
  unfold g_estoppellaw42_NettingAgain
  rw [head_true, Option.bind_some]
  by_cases hlen : (l.length : Int) > 400
  · rw [if_pos (decide_eq_true hlen)]
  rw [if_neg (by simpa using hlen), g_nNet m l h, g_nPairs m l h]
  simp only [Option.bind_some]
  obtain ⟨out, e1, i1, n1, a1⟩ := netR_out m (l.map toN)
  obtain ⟨po, e2, i2, n2, a2⟩ := pairsR_out m (l.map toN)
  rw [e1, e2, g_nNet m _ i1, g_nPairs m _ i2, map_toN, map_toN]
  simp only [Option.bind_some]
  have hfirst : (if ((netR m (l.map toN)).2 == 0) = true then
      if ((netR m out).2 != 2) = true then
      if ((netR m out).2 != 0) = true then some (.inl true)
      else (g_estoppelref42_Same (out.map ofD) (netR m out).1).bind fun x => some (.inl (!x))
      else some (.inl false)
      else some (.inl false) : Option (Bool ⊕ Bool)) = some (.inl false) := by
    by_cases c : (netR m (l.map toN)).2 = 0
    · rcases a1 c with h | h
      · simp [c, h]
      · simp [c, h, g_Same _ _ (show (out.map ofD).length ≤ 1000 by simp; omega)]
    · simp [c]
  rw [hfirst]
  simp only [bindF_l, Bool.false_eq_true, if_false, if_true]
  by_cases c : (pairsR m (l.map toN)).2 = 0
  · simp [c, a2 c, g_Same _ _ (show (po.map ofD).length ≤ 1000 by simp; omega)]
  · simp [c]
end Go.Proofs.Ytgggekjhfdkgkaa.Ab
