/- Ratios that are valid, as rational numbers. -/
import Derived.Test.YtdfokoapenhalaaDoorGRat
namespace Go.Proofs.YtdfokoapenhalaaDoor.Ab
open Go
/-- A valid ratio as it stands. -/
def ofQ (r : Rat) : D.Ratio := ⟨r.num, (r.den : Int)⟩
theorem okB {n d : Int} (h : Rt.ok n d = true) : i64B n ∧ i64B d ∧ n ≠ -9223372036854775808 := by
  obtain ⟨h1, h2, h3, _⟩ := Rt.ok_iff.1 h
  unfold i64B; omega
theorem asR_fit (r : Rat) : asR (Rt.fit r) = if Rt.fits r = true then (ofQ r, 0) else (⟨0, 0⟩, 2) := by
  unfold asR Rt.fit ofQ; split <;> rfl
theorem okQ {r : Rat} (h : Rt.fits r = true) : i64B (ofQ r).Num ∧ i64B (ofQ r).Den ∧ (ofQ r).Num ≠ -9223372036854775808 := okB (Rt.ok_rat h)
theorem cmp_q {a b : Rat} (ha : Rt.fits a = true) (hb : Rt.fits b = true) : g_ratio_Cmp (ofQ a) (ofQ b) = some (Nt.cmpR a b) := by
  obtain ⟨a1, a2, _⟩ := okQ ha
  obtain ⟨b1, b2, _⟩ := okQ hb
  rw [g_Cmp _ _ a1 a2 b1 b2]; exact congrArg some (Nt.cmp_rat ha hb)
theorem add_q {a b : Rat} (ha : Rt.fits a = true) (hb : Rt.fits b = true) : g_ratio_Add (ofQ a) (ofQ b) = some (asR (Rt.fit (a + b))) := by
  obtain ⟨a1, a2, _⟩ := okQ ha
  obtain ⟨b1, b2, _⟩ := okQ hb
  rw [g_Add _ _ a1 a2 b1 b2]; unfold Rt.add ofQ; rw [if_pos ⟨Rt.ok_rat ha, Rt.ok_rat hb⟩, Rt.val_rat, Rt.val_rat]
end Go.Proofs.YtdfokoapenhalaaDoor.Ab
