/- Plain laws of settling: few debts, nobody on both sides, pairs in order. -/
import Derived.Test.YtgggekjhfdkgkaaNetC
namespace Go.Proofs.Ytgggekjhfdkgkaa.Nt
open Rt

/-- Each debt of a settling leads from a party with less than nothing to one with more than nothing. -/
def Ways (n : Nat) (ps : List Rat) (x : Debt) : Prop := ∃ i j : Nat, x.f = i ∧ x.t = j ∧ i < n ∧ j < n ∧ ps.getD i 0 < 0 ∧ 0 < ps.getD j 0
theorem nz_two {n : Nat} {ps : List Rat} (h : Good n ps) (hd : ps.getD (dmin ps) 0 ≠ 0) : 2 ≤ nz ps := by
  have hl := h.len
  have h1 := h.dlt
  have h2 := h.clt
  have hne := h.ne hd
  have ⟨n1, n2⟩ := h.neg hd
  have hc : ps.getD (cmax ps) 0 ≠ 0 := by grind
  have e1 := nz_set ps (dmin ps) (by rw [hl]; exact h1) 0
  have e2 := nz_set (ps.set (dmin ps) 0) (cmax ps) (by rw [List.length_set, hl]; exact h2) 0
  rw [getD_set_ne _ hne, if_neg hc, if_pos rfl] at e2
  rw [if_neg hd, if_pos rfl] at e1
  omega
theorem amtX_le (ps : List Rat) : amtX ps ≤ -(ps.getD (dmin ps) 0) ∧ amtX ps ≤ ps.getD (cmax ps) 0 := by
  unfold amtX
  split <;> constructor <;> grind
theorem settle_spec {n : Nat} : ∀ (f : Nat) (ps : List Rat) (out : List Debt), Good n ps → settle f ps = some out → (out.length < nz ps ∨ out = [] ∧ nz ps = 0) ∧ ∀ x ∈ out, Ways n ps x
  | 0, ps, out, _, h => by cases h
  | f + 1, ps, out, hG, h => by
    unfold settle at h
    by_cases hd : ps.getD (dmin ps) 0 = 0
    · rw [if_pos hd] at h
      injection h with h; subst h
      refine ⟨.inr ⟨rfl, ?_⟩, fun x hx => by cases hx⟩
      have hz := total_nonneg (fun k hk => by have := hG.dle k (by rw [← hG.len]; exact hk); rw [hd] at this; exact this) hG.sum
      unfold nz
      rw [List.countP_eq_zero]
      intro r hr
      obtain ⟨k, hk⟩ := List.getElem?_of_mem hr
      have hlt := (List.getElem?_eq_some_iff.1 hk).1
      have := hz k hlt
      simp only [List.getD_eq_getElem?_getD, hk, Option.getD_some] at this
      simp [this]
    · rw [if_neg hd] at h
      by_cases hg : goes ps
      · rw [if_pos hg] at h
        cases hs : settle f (next ps) with
        | none => rw [hs] at h; cases h
        | some rest =>
          rw [hs] at h
          have ho : out = pay ps :: rest := by simpa using h.symm
          subst ho
          have hGn := hG.next hd hg
          obtain ⟨h1, h2⟩ := settle_spec f (next ps) rest hGn hs
          have hless := hG.less hd
          have htwo := nz_two hG hd
          have ⟨n1, n2⟩ := hG.neg hd
          have hne := hG.ne hd
          refine ⟨.inl ?_, fun x hx => ?_⟩
          · rcases h1 with h1 | ⟨rfl, h1⟩
            · simp only [List.length_cons]; omega
            · simp only [List.length_cons, List.length_nil]; omega
          · rcases List.mem_cons.1 hx with rfl | hx
            · exact ⟨_, _, rfl, rfl, hG.dlt, hG.clt, n1, n2⟩
            · obtain ⟨i, j, e1, e2, l1, l2, g1, g2⟩ := h2 x hx
              refine ⟨i, j, e1, e2, l1, l2, ?_, ?_⟩
              · unfold next at g1
                by_cases hic : cmax ps = i
                · subst hic
                  rw [getD_set_self _ (by rw [List.length_set, hG.len]; exact hG.clt)] at g1
                  have := (amtX_le ps).2; grind
                · rw [getD_set_ne _ hic] at g1
                  by_cases hid : dmin ps = i
                  · subst hid; exact n1
                  · rw [getD_set_ne _ hid] at g1; exact g1
              · unfold next at g2
                by_cases hic : cmax ps = j
                · subst hic; exact n2
                · rw [getD_set_ne _ hic] at g2
                  by_cases hid : dmin ps = j
                  · subst hid
                    rw [getD_set_self _ (by rw [hG.len]; exact hG.dlt)] at g2
                    have := (amtX_le ps).1; grind
                  · rw [getD_set_ne _ hid] at g2; exact g2
      · rw [if_neg hg] at h; cases h
theorem net_spec {l : List Debt} {n : Nat} {ps : List Rat} {out : List Debt} (hv : valid n l = true) (hp : posL l n = some ps) (h : netO l n = some out) : (out.length < nz ps ∨ out = [] ∧ nz ps = 0) ∧ ∀ x ∈ out, Ways n ps x := by
  unfold netO at h
  rw [hp] at h
  exact settle_spec _ _ _ (good_init hv hp) h
theorem net_apart {l : List Debt} {n : Nat} {ps : List Rat} {out : List Debt} (hv : valid n l = true) (hp : posL l n = some ps) (h : netO l n = some out) {x y : Debt} (hx : x ∈ out) (hy : y ∈ out) : x.f ≠ y.t := by
  obtain ⟨_, hw⟩ := net_spec hv hp h
  obtain ⟨i, j, e1, _, _, _, g1, _⟩ := hw x hx
  obtain ⟨i', j', _, e2, _, _, _, g2⟩ := hw y hy
  intro e
  have : i = j' := by omega
  subst this; grind
/-- The place of the two parties of a debt. -/
def key (x : Debt) : Int := (if x.t < x.f then x.t else x.f) * 12 + (if x.t > x.f then x.t else x.f)
def Keyed (x : Debt) : Prop := 0 ≤ x.f ∧ x.f < 12 ∧ 0 ≤ x.t ∧ x.t < 12 ∧ x.f ≠ x.t
theorem dOf_key (l : List Debt) (n k : Nat) (hn : n ≤ 12) : ∀ x ∈ dOf (k / 12) (k % 12) (gv l n (k / 12) (k % 12)), key x = k ∧ Keyed x := by
  intro x hx
  by_cases h : k / 12 < k % 12 ∧ k % 12 < n
  · generalize gv l n (k / 12) (k % 12) = q at hx
    obtain ⟨h1, h2⟩ := h
    unfold dOf at hx
    split at hx
    · have : x = ⟨((k / 12 : Nat) : Int), ((k % 12 : Nat) : Int), q.1, q.2⟩ := by simpa using hx
      subst this
      unfold key Keyed
      simp only
      rw [if_neg (by omega), if_pos (by omega)]
      omega
    · split at hx
      · have : x = ⟨((k % 12 : Nat) : Int), ((k / 12 : Nat) : Int), -q.1, q.2⟩ := by simpa using hx
        subst this
        unfold key Keyed
        simp only
        rw [if_pos (by omega), if_neg (by omega)]
        omega
      · cases hx
  · unfold gv at hx
    rw [if_neg h] at hx
    unfold dOf at hx
    simp at hx
theorem outK_key (l : List Debt) (n : Nat) (hn : n ≤ 12) : ∀ k, (∀ x ∈ outK l n k, key x < k ∧ Keyed x) ∧ (outK l n k).Pairwise (fun x y => key x < key y)
  | 0 => ⟨fun x hx => by simp [outK] at hx, by simp [outK]⟩
  | k + 1 => by
    obtain ⟨h1, h2⟩ := outK_key l n hn k
    have hd := dOf_key l n k hn
    rw [outK_next]
    refine ⟨fun x hx => ?_, List.pairwise_append.2 ⟨h2, ?_, fun x hx y hy => ?_⟩⟩
    · rcases List.mem_append.1 hx with hx | hx
      · exact ⟨by have := (h1 x hx).1; omega, (h1 x hx).2⟩
      · exact ⟨by have := (hd x hx).1; omega, (hd x hx).2⟩
    · have : ∀ q, (dOf (k / 12) (k % 12) q).Pairwise (fun x y => key x < key y) := fun q => by
        unfold dOf
        split
        · simp
        · split <;> simp
      exact this _
    · rw [(hd y hy).1]; exact (h1 x hx).1
theorem pairs_key {l : List Debt} {n : Nat} {out : List Debt} (hn : n ≤ 12) (h : pairsO l n = some out) : (∀ x ∈ out, Keyed x) ∧ out.Pairwise (fun x y => key x < key y) := by
  unfold pairsO at h
  split at h
  · injection h with h; subst h
    obtain ⟨h1, h2⟩ := outK_key l n hn 144
    exact ⟨fun x hx => (h1 x hx).2, h2⟩
  · cases h
theorem pairs_len {l : List Debt} {n : Nat} {out : List Debt} (h : pairsO l n = some out) : out.length ≤ 144 := by
  unfold pairsO at h
  split at h
  · injection h with h; subst h; exact outK_len l n 144
  · cases h
theorem net_len {l : List Debt} {n : Nat} {ps : List Rat} {out : List Debt} (hv : valid n l = true) (hp : posL l n = some ps) (h : netO l n = some out) : out.length ≤ 12 := by
  obtain ⟨h1, _⟩ := net_spec hv hp h
  have := nz_le ps
  have h2 := posL_len hp
  have h3 := (valid_iff.1 hv).1
  rcases h1 with h1 | ⟨rfl, _⟩
  · omega
  · simp
end Go.Proofs.Ytgggekjhfdkgkaa.Nt
