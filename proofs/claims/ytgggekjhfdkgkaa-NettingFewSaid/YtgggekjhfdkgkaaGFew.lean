/- NettingFew answers true, in plain Lean. -/
import Derived.Test.YtgggekjhfdkgkaaGNetC
import Derived.Test.YtgggekjhfdkgkaaDx18
import Derived.Test.YtgggekjhfdkgkaaNetL2
namespace Go.Proofs.Ytgggekjhfdkgkaa.Ab
open Go
theorem few_head : g_estoppellaw42_head = some true := by kernel_rfl
theorem count_loop {τ : Type} (ps : List Rat) (h : ps.length ≤ 12) : loopO (σ := Int × Int) (ρ := Int ⊕ τ) (fun s =>
      if (decide (s.2 < ((ps.map ofQ).length : Int))) = true then
      (getI (ps.map ofQ) s.2).bind fun x =>
      if (x.Num != 0) = true then some (.inl ((IntKind.i64.wrap (s.1 + 1)), (IntKind.i64.wrap (s.2 + 1))))
      else some (.inl (s.1, (IntKind.i64.wrap (s.2 + 1))))
      else some (.inr (.inl s.1))) (0, 0) = some (.inl ((Nt.nz ps : Nat) : Int)) := by
  refine range_eq (fun s => s.2) ps.length (fun i s => s.1 = ((Nt.nz (ps.take i) : Nat) : Int)) _ (fun i s hi hs h1 => ?_) (fun s hs h1 => ?_) (i := 0) rfl rfl (by omega) (by omega)
  · obtain ⟨s1, s2⟩ := s
    simp only at hs h1; subst hs; subst h1
    left
    have hk := Nt.nz_le (ps.take i)
    have hl : (ps.take i).length ≤ 12 := by rw [List.length_take]; omega
    have hn : Nt.nz (ps.take (i + 1)) = Nt.nz (ps.take i) + if ps.getD i 0 = 0 then 0 else 1 := by
      rw [List.take_succ_eq_append_getElem hi]
      unfold Nt.nz
      rw [List.countP_append, List.countP_singleton]
      congr 1
      have e : ps.getD i 0 = ps[i] := by simp [List.getD_eq_getElem?_getD, hi]
      rw [e]
      by_cases c : ps[i] = 0 <;> simp [c]
    have hb : ((ofQ (ps.getD i 0)).Num != 0) = !decide (ps.getD i 0 = 0) := by rw [← num_zero]; rfl
    simp only [List.length_map, lt_dec hi, if_true, getI_q hi, Option.bind_some, hb]
    refine ⟨(((Nt.nz (ps.take (i + 1)) : Nat) : Int), ((i + 1 : Nat) : Int)), ?_, rfl, rfl⟩
    rw [hn, inc i (by omega), inc _ (by omega)]
    by_cases c : ps.getD i 0 = 0
    · simp only [c, decide_true, Bool.not_true, Bool.false_eq_true, if_false, if_true, Nat.add_zero]
    · simp only [c, decide_false, Bool.not_false, if_false, if_true]
  · obtain ⟨s1, s2⟩ := s
    simp only at hs h1; subst hs; subst h1
    simp
theorem apart_loop {τ : Type} (z : τ) (l : List D.Debt) (h : l.length ≤ 1000) (ha : ∀ x ∈ l, ∀ y ∈ l, x.From ≠ y.To) : loopO (σ := Int) (ρ := Unit ⊕ τ) (fun s =>
      if (decide (s < (l.length : Int))) = true then
      loopO (σ := Int) (fun t =>
      if (decide (t < (l.length : Int))) = true then
      (getI l s).bind fun x =>
      (getI l t).bind fun y =>
      if (x.From == y.To) = true then some (.inr (.inr (.inr z)))
      else some (.inl (IntKind.i64.wrap (t + 1)))
      else some (.inr (.inl (IntKind.i64.wrap (s + 1))))) 0
      else some (.inr (.inl ()))) 0 = some (.inl ()) := by
  refine range_eq (fun s => s) l.length (fun i s => True) _ (fun i s hi hs _ => ?_) (fun s hs _ => ?_) (i := 0) rfl trivial (by omega) (by omega)
  · try simp only at hs
    subst hs
    left
    refine ⟨((i + 1 : Nat) : Int), ?_, rfl, trivial⟩
    simp only [lt_dec hi, if_true]
    refine range_eq (fun t => t) l.length (fun i s => True) _ (fun j t hj ht _ => ?_) (fun t ht _ => ?_) (i := 0) rfl trivial (by omega) (by omega)
    · try simp only at ht
      subst ht
      left
      have hb : (l[i].From == l[j].To) = false := by simpa using ha l[i] (List.getElem_mem hi) l[j] (List.getElem_mem hj)
      refine ⟨((j + 1 : Nat) : Int), ?_, rfl, trivial⟩
      simp only [lt_dec hj, if_true, getI_nat, List.getElem?_eq_getElem hi, List.getElem?_eq_getElem hj, Option.bind_some, hb, Bool.false_eq_true, if_false]
      rw [inc j (by omega)]
    · try simp only at ht
      subst ht
      simp only [Int.lt_irrefl, decide_false, Bool.false_eq_true, if_false]
      rw [inc i (by omega)]
  · try simp only at hs
    subst hs
    simp
theorem order_loop {τ : Type} (z : τ) (out : List Nt.Debt) (h : out.length ≤ 1000) (hk : ∀ x ∈ out, Nt.Keyed x) (hp : out.Pairwise (fun x y => Nt.key x < Nt.key y)) : loopO (σ := Int) (ρ := Unit ⊕ τ) (fun s =>
      if (decide (s < ((out.map ofD).length : Int))) = true then
      (getI (out.map ofD) (IntKind.i64.wrap (s - 1))).bind fun x1 =>
      (getI (out.map ofD) (IntKind.i64.wrap (s - 1))).bind fun x2 =>
      (getI (out.map ofD) s).bind fun x3 =>
      (getI (out.map ofD) s).bind fun x4 =>
      bindF (ρ := Bool) (
      if (decide ((if x2.To < x1.From then x2.To else x1.From) > (if x4.To < x3.From then x4.To else x3.From))) = true then
      some (.inl true)
      else
      if ((if x2.To < x1.From then x2.To else x1.From) == (if x4.To < x3.From then x4.To else x3.From)) = true then
      (getI (out.map ofD) (IntKind.i64.wrap (s - 1))).bind fun y1 =>
      (getI (out.map ofD) (IntKind.i64.wrap (s - 1))).bind fun y2 =>
      (getI (out.map ofD) s).bind fun y3 =>
      (getI (out.map ofD) s).bind fun y4 =>
      some (.inl (decide ((if y2.To > y1.From then y2.To else y1.From) ≥ (if y4.To > y3.From then y4.To else y3.From))))
      else
      some (.inl false)) (fun (e : Bool) =>
      if e = true then some (.inr (.inr z))
      else some (.inl (IntKind.i64.wrap (s + 1))))
      else some (.inr (.inl ()))) 1 = some (.inl ()) := by
  refine range_eq (fun s => s) (max 1 out.length) (fun i s => 1 ≤ i) _ (fun i s hi hs h1 => ?_) (fun s hs _ => ?_) (i := 1) rfl (Nat.le_refl _) (by omega) (by omega)
  · try simp only at hs
    subst hs
    left
    have hi' : i < out.length := by omega
    have hw : IntKind.i64.wrap ((i : Int) - 1) = ((i - 1 : Nat) : Int) := by rw [wrapI _ (by omega) (by omega)]; omega
    have g1 : getI (out.map ofD) ((i - 1 : Nat) : Int) = some (ofD (out[i - 1]'(by omega))) := by
      rw [getI_nat, List.getElem?_map, List.getElem?_eq_getElem (by omega)]; rfl
    have g2 : getI (out.map ofD) (i : Int) = some (ofD out[i]) := by
      rw [getI_nat, List.getElem?_map, List.getElem?_eq_getElem hi']; rfl
    have k1 := hk (out[i - 1]'(by omega)) (List.getElem_mem _)
    have k2 := hk out[i] (List.getElem_mem _)
    have kk := List.pairwise_iff_getElem.1 hp (i - 1) i (by omega) hi' (by omega)
    refine ⟨((i + 1 : Nat) : Int), ?_, rfl, by omega⟩
    simp only [List.length_map, lt_dec hi', if_true, hw, g1, g2, Option.bind_some]
    generalize out[i - 1]'(by omega) = x at *
    generalize out[i] = y at *
    rw [inc i (by omega)]
    unfold ofD
    unfold Nt.Keyed at k1 k2
    unfold Nt.key at kk
    simp only
    obtain ⟨k11, k12, k13, k14, k15⟩ := k1
    obtain ⟨k21, k22, k23, k24, k25⟩ := k2
    have c1 : decide ((if x.t < x.f then x.t else x.f) > (if y.t < y.f then y.t else y.f)) = false := by
      apply decide_eq_false; omega
    simp only [c1, Bool.false_eq_true, if_false]
    by_cases c2 : ((if x.t < x.f then x.t else x.f) == (if y.t < y.f then y.t else y.f)) = true
    · have c3 : decide ((if x.t > x.f then x.t else x.f) ≥ (if y.t > y.f then y.t else y.f)) = false := by
        rw [beq_iff_eq] at c2
        apply decide_eq_false; omega
      simp only [c2, if_true, bindF_l, c3, Bool.false_eq_true, if_false]
    · simp only [c2, if_false, bindF_l, Bool.false_eq_true]
  · try simp only at hs
    subst hs
    have : decide ((((max 1 out.length : Nat) : Int)) < ((out.map ofD).length : Int)) = false := decide_eq_false (by simp; omega)
    simp only [this, Bool.false_eq_true, if_false]
theorem few_true (m : Int) (l : List D.Debt) (h : ∀ x ∈ l, i64D x) : g_estoppellaw42_NettingFew m l = some true := by
  unfold g_estoppellaw42_NettingFew
  rw [few_head, Option.bind_some]
  by_cases hlen : (l.length : Int) > 400
  · rw [if_pos (decide_eq_true hlen)]
  rw [if_neg (by simpa using hlen), g_nPositions m l h, g_nNet m l h, g_nPairs m l h]
  simp only [Option.bind_some]
  unfold posR netR
  cases hv : Nt.valid m (l.map toN)
  · rfl
  obtain ⟨⟨h1, h2⟩, h3, h4⟩ := okL hv
  obtain ⟨n, rfl⟩ : ∃ n : Nat, m = n := ⟨m.toNat, by omega⟩
  simp only [if_true, Int.toNat_natCast]
  cases hp : Nt.posL (l.map toN) n with
  | none => rfl
  | some ps =>
  cases hs : Nt.settle (n + 1) ps with
  | none => simp only [hs]; rfl
  | some out =>
  have hn : Nt.netO (l.map toN) n = some out := by unfold Nt.netO; rw [hp]; exact hs
  have hplen := Nt.posL_len hp
  have holen := Nt.net_len hv hp hn
  obtain ⟨hsp, _⟩ := Nt.net_spec hv hp hn
  simp only [hs, bne_self_eq_false, Bool.false_eq_true, if_false, bindF_l, if_true]
  rw [count_loop ps (by omega)]
  simp only [bindF_l]
  rw [apart_loop (false) (out.map ofD) (by simp; omega) (fun x hx y hy => by
    obtain ⟨x', hx', rfl⟩ := List.mem_map.1 hx
    obtain ⟨y', hy', rfl⟩ := List.mem_map.1 hy
    exact Nt.net_apart hv hp hn hx' hy')]
  simp only [bindF_l]
  have hpr : ∃ po : List Nt.Debt, (pairsR (n : Int) (l.map toN)).1 = po.map ofD ∧ po.length ≤ 1000 ∧ (∀ x ∈ po, Nt.Keyed x) ∧ po.Pairwise (fun x y => Nt.key x < Nt.key y) := by
    unfold pairsR
    rw [if_pos hv, Int.toNat_natCast]
    cases hq : Nt.pairsO (l.map toN) n with
    | none => exact ⟨[], rfl, by simp, by simp, .nil⟩
    | some po =>
      obtain ⟨q1, q2⟩ := Nt.pairs_key (by omega) hq
      exact ⟨po, rfl, by have := Nt.pairs_len hq; omega, q1, q2⟩
  obtain ⟨po, e1, e2, e3, e4⟩ := hpr
  rw [e1, order_loop false po e2 e3 e4]
  simp only [bindF_l, List.length_map]
  rcases hsp with hs | ⟨rfl, hz⟩
  · rw [if_pos (decide_eq_true (by omega))]
  · rw [hz]; rfl
end Go.Proofs.Ytgggekjhfdkgkaa.Ab
