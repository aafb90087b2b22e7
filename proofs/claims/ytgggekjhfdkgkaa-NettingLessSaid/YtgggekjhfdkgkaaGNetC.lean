/- What netting's Pairs computes. -/
import Derived.Test.YtgggekjhfdkgkaaGNetB
import Derived.Test.YtgggekjhfdkgkaaNetPl
namespace Go.Proofs.Ytgggekjhfdkgkaa.Ab
open Go
def cq (q : Int × Int) : D.Ratio := ⟨q.1, q.2⟩
def gridQ (l : List Nt.Debt) (n a b : Nat) : List D.Ratio := (Nt.grid l n a b).map cq
theorem lenO_ok {α : Type} {l : List α} {n : Nat} (h : l.length = n) : lenO l n = some () := by unfold lenO; rw [if_pos h]
theorem rngO_ok {i : Nat} {n : Nat} (h : i < n) : rngO (i : Int) n = some () := by unfold rngO; rw [if_pos (by omega)]
theorem gridQ_len (l : List Nt.Debt) (n a b : Nat) : (gridQ l n a b).length = 144 := by unfold gridQ; rw [List.length_map, Nt.grid_len]
theorem lt_dec {a b : Nat} (h : a < b) : decide ((a : Int) < (b : Int)) = true := decide_eq_true (by omega)
theorem grid_inner (l : List D.Debt) (n a : Nat) (ha : a < n) (hn : n ≤ 12) (hl : l.length ≤ 400) (hok : ∀ x ∈ l, Rt.ok x.Amount.Num x.Amount.Den = true) :
    ∃ r, loopO (σ := List D.Ratio × Int) (ρ := (List D.Ratio × Int) ⊕ (List D.Ratio ⊕ (List D.Debt × Int))) (fun s =>
      if (decide (s.2 < (n : Int))) = true then
      (g_netting_sum_Pairs_1 l (a : Int) s.2).bind fun x =>
      if (x.2 != 0) = true then some (.inr (.inr (.inr ([], x.2)))) else
      (rngO (a : Int) 12).bind fun _ =>
      (rngO s.2 12).bind fun _ =>
      (getI s.1 ((a : Int) * 12 + s.2)).bind fun _ =>
      some (.inl ((setI s.1 ((a : Int) * 12 + s.2) x.1), (IntKind.i64.wrap (s.2 + 1))))
      else some (.inr (.inl (s.1, (IntKind.i64.wrap ((a : Int) + 1)))))) (gridQ (l.map toN) n a (a + 1), (IntKind.i64.wrap ((a : Int) + 1))) = some r ∧
      ((r = .inl (gridQ (l.map toN) n (a + 1) (a + 2), ((a + 1 : Nat) : Int)) ∧ ∀ b : Nat, a < b → b < n → (Nt.pair (l.map toN) a b).isSome = true) ∨ (r = .inr (.inr ([], 2)) ∧ ∃ b : Nat, a < b ∧ b < n ∧ Nt.pair (l.map toN) a b = none)) := by
  refine range_rule (fun s => s.2) n (fun b s => a < b ∧ s.1 = gridQ (l.map toN) n a b ∧ ∀ b' : Nat, a < b' → b' < b → (Nt.pair (l.map toN) a b').isSome = true) _ (fun b s hb hs ⟨hab, h1, hall⟩ => ?_) (fun s hs ⟨hab, h1, hall⟩ => ?_) (i := a + 1) (inc a (by omega)) ⟨by omega, rfl, fun b' _ _ => by omega⟩ (by omega) (by omega)
  · obtain ⟨s1, s2⟩ := s
    simp only at hs h1; subst hs; subst h1
    simp only [lt_dec hb, if_true, g_sumQ l a b hl hok, Option.bind_some]
    cases hp : Nt.pair (l.map toN) a b with
    | none => exact .inr ⟨_, rfl, .inr ⟨rfl, b, hab, hb, hp⟩⟩
    | some r =>
      left
      have hi : ((a : Int) * 12 + (b : Int)) = ((a * 12 + b : Nat) : Int) := by omega
      have hg : ∃ y, getI (gridQ (l.map toN) n a b) ((a * 12 + b : Nat) : Int) = some y := ⟨_, by rw [getI_nat, List.getElem?_eq_getElem (by rw [gridQ_len]; omega)]⟩
      obtain ⟨y, hg⟩ := hg
      refine ⟨(gridQ (l.map toN) n a (b + 1), ((b + 1 : Nat) : Int)), ?_, rfl, by omega, rfl, fun b' h1 h2 => ?_⟩
      · show (if ((0 : Int) != 0) = true then _ else _) = _
        simp only [bne_self_eq_false, Bool.false_eq_true, if_false, rngO_ok (show a < 12 by omega), rngO_ok (show b < 12 by omega), Option.bind_some, hi, hg, setI_nat]
        rw [inc b (by omega)]
        have := Nt.grid_set (l.map toN) n a b r hab hb hn hp
        have e : (gridQ (l.map toN) n a b).set (a * 12 + b) (ofQ r) = gridQ (l.map toN) n a (b + 1) := by
          unfold gridQ; rw [← this, List.map_set]; rfl
        exact congrArg (fun z => some (Sum.inl (z, ((b + 1 : Nat) : Int)))) e
      · by_cases e : b' = b
        · subst e; rw [hp]; rfl
        · exact hall b' h1 (by omega)
  · obtain ⟨s1, s2⟩ := s
    simp only at hs h1; subst hs; subst h1
    refine ⟨.inl (gridQ (l.map toN) n a n, (IntKind.i64.wrap ((a : Int) + 1))), by simp only [Int.lt_irrefl, decide_false, Bool.false_eq_true, if_false], .inl ⟨?_, hall⟩⟩
    rw [inc a (by omega)]
    unfold gridQ
    rw [Nt.grid_row _ n a n (Nat.le_refl _)]
def cellsQ (l : List Nt.Debt) (n : Nat) : List D.Ratio := (List.range 144).map fun k => cq (Nt.gv l n (k / 12) (k % 12))
theorem gridQ_end (l : List Nt.Debt) (n : Nat) : gridQ l n n (n + 1) = cellsQ l n := by
  unfold gridQ Nt.grid cellsQ
  rw [List.map_map]
  apply List.map_congr_left
  intro k _
  simp only [Function.comp]
  split
  · rfl
  · unfold Nt.gv; rw [if_neg (by omega)]
theorem cells_get (l : List Nt.Debt) (n i j : Nat) (hi : i < 12) (hj : j < 12) : getI (((cellsQ l n).drop ((i : Int).toNat * 12)).take 12) (j : Int) = some (cq (Nt.gv l n i j)) := by
  rw [getI_nat, List.getElem?_take, if_pos hj, List.getElem?_drop, Int.toNat_natCast]
  unfold cellsQ
  rw [List.getElem?_map, List.getElem?_range (by omega)]
  rw [Option.map_some, show (i * 12 + j) / 12 = i by omega, show (i * 12 + j) % 12 = j by omega]
theorem cells_len (l : List Nt.Debt) (n : Nat) : (cellsQ l n).length = 144 := by unfold cellsQ; simp
theorem gv_small (l : List Nt.Debt) (n i j : Nat) : -1000000000000 ≤ (Nt.gv l n i j).1 ∧ (Nt.gv l n i j).1 ≤ 1000000000000 := by
  unfold Nt.gv
  split
  · split
    · rename_i r hr
      obtain ⟨h, _⟩ := Rt.fits_iff.1 (Nt.sumO_fits Nt.zero_fits hr)
      show -1000000000000 ≤ r.num ∧ r.num ≤ 1000000000000
      omega
    · simp
  · simp
theorem out_inner {τ : Type} (l : List Nt.Debt) (n i : Nat) (hi : i < 12) :
    loopO (σ := List D.Debt × Int) (ρ := (List D.Debt × Int) ⊕ τ) (fun s =>
      if (decide (s.2 < 12)) = true then
      (getI (((cellsQ l n).drop ((i : Int).toNat * 12)).take 12) s.2).bind fun x =>
      if (decide (x.Num > 0)) = true then
      (appO 32 s.1 [(D.Debt.mk (i : Int) s.2 x)]).bind fun y => some (.inl (y, (IntKind.i64.wrap (s.2 + 1))))
      else
      if (decide (x.Num < 0)) = true then
      (g_netting_minus x).bind fun z =>
      (appO 32 s.1 [(D.Debt.mk s.2 (i : Int) z)]).bind fun y => some (.inl (y, (IntKind.i64.wrap (s.2 + 1))))
      else
      some (.inl (s.1, (IntKind.i64.wrap (s.2 + 1))))
      else
      some (.inr (.inl (s.1, (IntKind.i64.wrap ((i : Int) + 1)))))) ((Nt.outK l n (i * 12)).map ofD, 0) = some (.inl ((Nt.outK l n ((i + 1) * 12)).map ofD, ((i + 1 : Nat) : Int))) := by
  refine range_eq (fun s => s.2) 12 (fun j s => s.1 = (Nt.outK l n (i * 12 + j)).map ofD) _ (fun j s hj hs h1 => ?_) (fun s hs h1 => ?_) (i := 0) rfl rfl (by omega) (by omega)
  · obtain ⟨s1, s2⟩ := s
    simp only at hs h1; subst hs; subst h1
    left
    have hlen : ((((cellsQ l n).drop ((i : Int).toNat * 12)).take 12)).length = 12 := by
      rw [List.length_take, List.length_drop, cells_len, Int.toNat_natCast]; omega
    have e1 : (i * 12 + j) / 12 = i := by omega
    have e2 : (i * 12 + j) % 12 = j := by omega
    have hk := Nt.outK_len l n (i * 12 + j)
    have hs := gv_small l n i j
    have hnx := Nt.outK_next l n (i * 12 + j)
    rw [e1, e2] at hnx
    simp only [show decide ((j : Int) < 12) = true from decide_eq_true (by omega), if_true, cells_get l n i j hi hj, lenO_ok hlen, Option.bind_some]
    have happ : ∀ d, appO 32 ((Nt.outK l n (i * 12 + j)).map ofD) [d] = some ((Nt.outK l n (i * 12 + j)).map ofD ++ [d]) := fun d => by
      unfold appO; rw [if_pos (by simp; omega)]
    refine ⟨((Nt.outK l n (i * 12 + (j + 1))).map ofD, ((j + 1 : Nat) : Int)), ?_, rfl, rfl⟩
    rw [inc j (by omega), show i * 12 + (j + 1) = i * 12 + j + 1 by omega, hnx, List.map_append]
    unfold Nt.dOf cq
    by_cases c1 : 0 < (Nt.gv l n i j).1
    · simp only [show decide ((Nt.gv l n i j).1 > 0) = true from decide_eq_true c1, if_true, happ, Option.bind_some, c1]
      rfl
    · simp only [show decide ((Nt.gv l n i j).1 > 0) = false from decide_eq_false c1, Bool.false_eq_true, if_false, c1]
      by_cases c2 : (Nt.gv l n i j).1 < 0
      · unfold g_netting_minus
        simp only [c2, decide_true, if_true, Option.bind_some, happ]
        rw [wrapI _ (by omega) (by omega), Int.zero_sub]
        rfl
      · simp only [c2, decide_false, Bool.false_eq_true, if_false]
        simp
  · obtain ⟨s1, s2⟩ := s
    simp only at hs h1; subst hs; subst h1
    simp only [show decide (((12 : Nat) : Int) < 12) = false from rfl, Bool.false_eq_true, if_false]
    rw [inc i (by omega), show i * 12 + 12 = (i + 1) * 12 by omega]
/-- What Pairs gives. -/
def pairsR (m : Int) (l : List Nt.Debt) : List D.Debt × Int := if Nt.valid m l = true then (match Nt.pairsO l m.toNat with | some out => (out.map ofD, 0) | none => ([], 2)) else ([], 1)
theorem g_nPairs (m : Int) (l : List D.Debt) (h : ∀ x ∈ l, i64D x) : g_netting_Pairs m l = some (pairsR m (l.map toN)) := by
  unfold g_netting_Pairs pairsR
  rw [g_nValid m l h, Option.bind_some]
  cases hv : Nt.valid m (l.map toN)
  · rfl
  obtain ⟨⟨h1, h2⟩, h3, h4⟩ := okL hv
  simp only [Bool.not_true, Bool.false_eq_true, if_false, if_true]
  obtain ⟨n, rfl⟩ : ∃ n : Nat, m = n := ⟨m.toNat, by omega⟩
  rw [Int.toNat_natCast]
  have hst : List.replicate 144 (D.Ratio.mk 0 0) = gridQ (l.map toN) n 0 1 := by
    unfold gridQ; rw [← Nt.grid_start, List.map_replicate]; rfl
  rw [hst]
  have key := range_rule (ρ := List D.Ratio ⊕ (List D.Debt × Int)) (body := fun (s : List D.Ratio × Int) =>
      if (decide (s.2 < (n : Int))) = true then
      loopO (σ := List D.Ratio × Int) (fun s' =>
      if (decide (s'.2 < (n : Int))) = true then
      (g_netting_sum_Pairs_1 l s.2 s'.2).bind fun x =>
      if (x.2 != 0) = true then some (.inr (.inr (.inr ([], x.2)))) else
      (rngO s.2 12).bind fun _ =>
      (rngO s'.2 12).bind fun _ =>
      (getI s'.1 (s.2 * 12 + s'.2)).bind fun _ =>
      some (.inl ((setI s'.1 (s.2 * 12 + s'.2) x.1), (IntKind.i64.wrap (s'.2 + 1))))
      else some (.inr (.inl (s'.1, (IntKind.i64.wrap (s.2 + 1)))))) (s.1, (IntKind.i64.wrap (s.2 + 1)))
      else some (.inr (.inl s.1))) (fun s => s.2) n (fun a s => s.1 = gridQ (l.map toN) n a (a + 1) ∧ ∀ a' b : Nat, a' < a → a' < b → b < n → (Nt.pair (l.map toN) a' b).isSome = true)
      (fun r => (r = .inl (cellsQ (l.map toN) n) ∧ Nt.pairsB (l.map toN) n = true) ∨ (r = .inr ([], 2) ∧ Nt.pairsO (l.map toN) n = none))
      (fun a s ha hs ⟨h1, hall⟩ => by
        obtain ⟨s1, s2⟩ := s
        simp only at hs h1; subst hs; subst h1
        obtain ⟨r, hr, hq⟩ := grid_inner l n a ha (by omega) h3 h4
        simp only [lt_dec ha, if_true, hr]
        rcases hq with ⟨rfl, hq⟩ | ⟨rfl, b, hab, hb, hq⟩
        · refine .inl ⟨_, rfl, rfl, rfl, fun a' b h1 h2 h3 => ?_⟩
          by_cases e : a' = a
          · subst e; exact hq b h2 h3
          · exact hall a' b (by omega) h2 h3
        · exact .inr ⟨_, rfl, .inr ⟨rfl, Nt.pairsO_none hab hb hq⟩⟩)
      (fun s hs ⟨h1, hall⟩ => by
        obtain ⟨s1, s2⟩ := s
        simp only at hs h1; subst hs; subst h1
        refine ⟨.inl (gridQ (l.map toN) n n (n + 1)), by simp only [Int.lt_irrefl, decide_false, Bool.false_eq_true, if_false], .inl ⟨by rw [gridQ_end], Nt.pairsB_iff.2 fun a b h1 h2 => hall a b (by omega) h1 h2⟩⟩)
      (s := (gridQ (l.map toN) n 0 1, 0)) (i := 0) rfl ⟨rfl, fun a' b h => by omega⟩ (by omega) (by omega)
  obtain ⟨r, hr, hq⟩ := key
  rw [hr]
  rcases hq with ⟨rfl, hq⟩ | ⟨rfl, hq⟩
  · have hP : Nt.pairsO (l.map toN) n = some (Nt.outK (l.map toN) n 144) := by unfold Nt.pairsO; rw [if_pos hq]
    rw [hP]
    simp only [bindF_l, lenO_ok (cells_len (l.map toN) n), Option.bind_some]
    rw [range_eq (ρ := List D.Debt ⊕ (List D.Debt × Int)) (fun s => s.2) 12 (fun i s => s.1 = (Nt.outK (l.map toN) n (i * 12)).map ofD) (.inl ((Nt.outK (l.map toN) n 144).map ofD))
      (fun i s hi hs h1 => by
        obtain ⟨s1, s2⟩ := s
        simp only at hs h1; subst hs; subst h1
        have hlen : ((((cellsQ (l.map toN) n).drop ((i : Int).toNat * 12)).take 12)).length = 12 := by
          rw [List.length_take, List.length_drop, cells_len, Int.toNat_natCast]; omega
        left
        simp only [show decide ((i : Int) < 12) = true from decide_eq_true (by omega), if_true, rngO_ok hi, lenO_ok hlen, lenO_ok (show (List.replicate 12 (D.Ratio.mk 0 0)).length = 12 from rfl), Option.bind_some]
        exact ⟨((Nt.outK (l.map toN) n ((i + 1) * 12)).map ofD, ((i + 1 : Nat) : Int)), out_inner (l.map toN) n i hi, rfl, rfl⟩)
      (fun s hs h1 => by
        obtain ⟨s1, s2⟩ := s
        simp only at hs h1; subst hs; subst h1
        rfl) (i := 0) rfl rfl (by omega) (by omega)]
    rfl
  · rw [hq]; rfl
end Go.Proofs.Ytgggekjhfdkgkaa.Ab
