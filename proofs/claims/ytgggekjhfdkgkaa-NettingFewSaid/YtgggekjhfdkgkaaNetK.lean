/- Plain netting: positions as a list, and the extreme ones. -/
import Derived.Test.YtgggekjhfdkgkaaNetM
namespace Go.Proofs.Ytgggekjhfdkgkaa
abbrev pr (r : Rat) : Int × Int := (r.num, (r.den : Int))
theorem Nt.posL_len {l : List Nt.Debt} : ∀ {n : Nat} {ps : List Rat}, Nt.posL l n = some ps → ps.length = n
  | 0, ps, h => by injection h with h; subst h; rfl
  | n + 1, ps, h => by
    unfold Nt.posL at h
    cases h1 : Nt.posL l n with
    | none => rw [h1] at h; cases h
    | some qs =>
      rw [h1] at h
      cases h2 : Nt.pos l n with
      | none => rw [h2] at h; cases h
      | some r => rw [h2] at h; injection h with h; subst h; simp [Nt.posL_len h1]
theorem Nt.posL_next {l : List Nt.Debt} {k : Nat} {ps : List Rat} {r : Rat} (h : Nt.posL l k = some ps) (hr : Nt.pos l k = some r) : Nt.posL l (k + 1) = some (ps ++ [r]) := by
  rw [Nt.posL, h, hr]
theorem Nt.posL_none {l : List Nt.Debt} {k : Nat} {ps : List Rat} (h : Nt.posL l k = some ps) (hr : Nt.pos l k = none) : ∀ n, k < n → Nt.posL l n = none
  | 0, hn => absurd hn (by omega)
  | n + 1, hn => by
    by_cases e : k = n
    · subst e; rw [Nt.posL, h, hr]
    · rw [Nt.posL, Nt.posL_none h hr n (by omega)]
/-- The comparison of two ratios. -/
def Nt.cmpR (a b : Rat) : Int := if a < b then -1 else if b < a then 1 else 0
theorem Nt.cmp_rat {a b : Rat} (ha : Rt.fits a = true) (hb : Rt.fits b = true) : Rt.cmp a.num a.den b.num b.den = Nt.cmpR a b := by
  unfold Rt.cmp Nt.cmpR; rw [if_pos ⟨Rt.ok_rat ha, Rt.ok_rat hb⟩, Rt.val_rat, Rt.val_rat]
/-- The first extreme position among the first k ones. -/
def Nt.extK (c : Int → Bool) (ps : List Rat) : Nat → Nat
  | 0 => 0
  | k + 1 => if c (Nt.cmpR (ps.getD k 0) (ps.getD (Nt.extK c ps k) 0)) = true then k else Nt.extK c ps k
theorem Nt.extK_lt (c : Int → Bool) (ps : List Rat) (n : Nat) (hn : 0 < n) : ∀ k, k ≤ n → Nt.extK c ps k < n
  | 0, _ => hn
  | k + 1, hk => by
    unfold Nt.extK
    split
    · omega
    · exact Nt.extK_lt c ps n hn k (by omega)

end Go.Proofs.Ytgggekjhfdkgkaa
