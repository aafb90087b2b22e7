/- The walks of package ratio: magnitudes, common divisors, validity. -/
import Derived.Test.YtgggekjhfdkgkaaKin
import Derived.Test.YtgggekjhfdkgkaaRatM
import Derived.Deep.RegionHeld3
namespace Go.Proofs.Ytgggekjhfdkgkaa
open Go.RowKit Go.Shelf

/-- A ratio and an error. -/
abbrev retR (n d e : Int) : Ending := .returned (.tuple #[.agg #[.int .i64 n, .int .i64 d], .int .i64 e])

theorem magnitude_any (n : Int) (w : World) (h1 : -9223372036854775808 ≤ n) (h2 : n ≤ 9223372036854775807) :
    Calls Try.prog 53 #[.int .i64 n] w fun e w' => e = .returned (.int .u64 (n.natAbs : Int)) ∧ w = w' := by
  by_cases c : n < 0
  · go_enter Try.func53, Try.ntmps53
    go_wp2
    go_ret
    exact ⟨ret_int (by show IntKind.u64.wrap (-IntKind.u64.wrap n) = _; rw [IntKind.wrap_u64, IntKind.wrap_u64]; omega), rfl⟩
  · go_enter Try.func53, Try.ntmps53
    go_wp2
    go_ret
    exact ⟨ret_int (by show n = _; omega), rfl⟩

theorem gcd_step (g x : Nat) : Nat.gcd x (g % x) = Nat.gcd g x := by
  rw [Nat.gcd_comm x, ← Nat.gcd_rec, Nat.gcd_comm]

/-- The greatest common divisor of the first numbers of a list. -/
def gcdL : List Nat → Nat → Nat
  | [], g => g
  | x :: l, g => gcdL l (Nat.gcd g x)
theorem gcdL_snoc (l : List Nat) (x g : Nat) : gcdL (l ++ [x]) g = Nat.gcd (gcdL l g) x := by
  induction l generalizing g with
  | nil => rfl
  | cons y l ih => exact ih _

theorem common_any (A : Option Addr) (l : List Nat) (c : Nat) (w : World) (hl : l.length ≤ 1000) (hb : ∀ x ∈ l, x ≤ 18446744073709551615) (hh : Row w A (l.map fun x : Nat => Value.int .u64 (x : Int))) :
    Calls Try.prog 54 #[.slice A l.length c] w fun e w' => e = .returned (.int .u64 (gcdL l 0 : Nat)) ∧ Below w.heap.size w w' := by
  have HH := Lib.hid hh
  have HB := Lib.hid hb
  clear hh hb
  go_enter Try.func54, Try.ntmps54
  go_wp2
  go_loopg [3, 8] l.length (fun kx s3 s8 wr => ∃ (k g : Nat) (x : Kin w), k ≤ l.length ∧ l.length - k ≤ kx ∧ g ≤ 18446744073709551615 ∧ s8 = .int .i64 k ∧ s3 = .int .u64 (g : Int) ∧ Aside (gcdL (l.take k) 0 = g) ∧ wr = x.w)
  case atStart => exact ⟨0, 0, ⟨w, Below.refl _ _⟩, by omega, by omega, by omega, rfl, rfl, (rfl : gcdL (l.take 0) 0 = 0), rfl⟩
  case round =>
    obtain ⟨k, g, x, hk, hkx, hg, rfl, rfl, I, rfl⟩ := hrel
    by_cases hlt : k < l.length
    · obtain ⟨b, off, rfl, hc⟩ := HH.out.at_ (k := k) (by simpa using hlt)
      have hck := hc k (.int .u64 (l[k] : Int)) (by simp [hlt])
      have kc := fun x : Kin w => x.cell hck
      have hbk := HB.out l[k] (List.getElem_mem hlt)
      have HT := Lib.hid (List.take_succ_eq_append_getElem hlt)
      clear hc hck
      generalize l[k] = y at *
      go_wp2
      go_loopg [3, 5] (y + 1) (fun kx s3 s5 wr => ∃ (g' y' : Nat) (x : Kin w), g' ≤ 18446744073709551615 ∧ y' ≤ 18446744073709551615 ∧ y' + 1 ≤ kx ∧ s3 = .int .u64 (g' : Int) ∧ s5 = .int .u64 (y' : Int) ∧ Aside (Nat.gcd g' y' = Nat.gcd g y) ∧ wr = x.w)
      case atStart => exact ⟨g, y, x, hg, hbk, Nat.le_refl _, rfl, rfl, (rfl : Nat.gcd g y = Nat.gcd g y), rfl⟩
      case round =>
        obtain ⟨g', y', x', hg', hy', hk', rfl, rfl, I', rfl⟩ := hrel
        by_cases hz : y' = 0
        · subst hz
          go_wp2
          go_roundg (l.length - (k + 1))
          case measure => omega
          case rel =>
            refine ⟨k + 1, g', x', by omega, by omega, hg', by go_num, rfl, ?_, rfl⟩
            show gcdL (l.take (k + 1)) 0 = g'
            rw [HT.out, gcdL_snoc, I.out, ← I'.out, Nat.gcd_zero_right]
        · have hz2 : (0 : Int) < (y' : Int) := by omega
          have hm : g' % y' < y' := Nat.mod_lt _ (by omega)
          go_wp2
          refine wp_region_kin (by kernel_rfl) (by kernel_rfl) x'.below ?_
          repeat (go_big_quiet_step (fail))
          refine wpQuiet_nil ?_
          intro _ hw'
          obtain ⟨x2, hw''⟩ := hw'
          subst hw''
          go_wp2
          go_roundg (g' % y' + 1)
          case measure => omega
          case rel =>
            refine ⟨y', g' % y', x2, hy', by omega, Nat.le_refl _, rfl, by go_num, ?_, rfl⟩
            show Nat.gcd y' (g' % y') = Nat.gcd g y
            rw [gcd_step]; exact I'.out
    · obtain rfl : k = l.length := by omega
      go_wp2
      go_ret
      exact ⟨ret_int (by rw [← I.out, List.take_length]), x.below⟩

theorem common2_any (A : Option Addr) (a b : Nat) (c : Nat) (w : World) (ha : a ≤ 18446744073709551615) (hb : b ≤ 18446744073709551615) (hh : Row w A [.int .u64 (a : Int), .int .u64 (b : Int)]) :
    Calls Try.prog 54 #[.slice A 2 c] w fun e w' => e = .returned (.int .u64 (Nat.gcd a b : Nat)) ∧ Below w.heap.size w w' := by
  have h := common_any A [a, b] c w (by simp) (by simp; omega) hh
  have e : gcdL [a, b] 0 = Nat.gcd a b := by simp [gcdL]
  rw [e] at h; exact h

theorem rvalid_any (n d : Int) (w : World) (n1 : -9223372036854775808 ≤ n) (n2 : n ≤ 9223372036854775807) :
    Calls Try.prog 43 #[.agg #[.int .i64 n, .int .i64 d]] w fun e w' => e = .returned (.bool (Rt.ok n d)) ∧ Below w.heap.size w w' := by
  have hb1 : Below w.heap.size w (w.alloc (.cells #[.int .i64 n, .int .i64 d] 34)) := (Below.refl _ _).alloc (Nat.le_refl _) _
  have c0 : (w.alloc (.cells #[.int .i64 n, .int .i64 d] 34)).cell? ⟨w.heap.size, 0, none⟩ = some (.int .i64 n) := by go_simp
  have c1 : (w.alloc (.cells #[.int .i64 n, .int .i64 d] 34)).cell? ⟨w.heap.size, 1, none⟩ = some (.int .i64 d) := by go_simp
  by_cases h1 : d < 1
  · have hr : Rt.ok n d = false := by unfold Rt.ok; exact decide_eq_false (by omega)
    have HR := Lib.hid hr
    clear hr
    have g1 : decide (0 < d) = false := by simp; omega
    go_enter Try.func43, Try.ntmps43
    go_wp2_with fail
    generalize w.alloc (.cells #[.int .i64 n, .int .i64 d] 34) = W at *
    have k0 := fun x : Kin W => x.cell c0
    have k1 := fun x : Kin W => x.cell c1
    refine wp_region_kin (by kernel_rfl) (by kernel_rfl) (Below.refl _ W) ?_
    repeat (go_big_quiet_step ((go_at_call 53; exact kin_same (magnitude_any _ _ (by omega) (by omega)))))
    refine wpQuiet_nil ?_
    intro _ hw'
    obtain ⟨x2, hw''⟩ := hw'
    subst hw''
    go_wp2
    go_ret
    exact ⟨ret_bool HR.out.symm, hb1.trans (x2.below.mono hb1.size)⟩
  by_cases h2 : 1000000 < d
  · have hr : Rt.ok n d = false := by unfold Rt.ok; exact decide_eq_false (by omega)
    have HR := Lib.hid hr
    clear hr
    have g1 : decide (0 < d) = true := by simp; omega
    have g2 : decide (d ≤ 1000000) = false := by simp; omega
    go_enter Try.func43, Try.ntmps43
    go_wp2_with fail
    generalize w.alloc (.cells #[.int .i64 n, .int .i64 d] 34) = W at *
    have k0 := fun x : Kin W => x.cell c0
    have k1 := fun x : Kin W => x.cell c1
    refine wp_region_kin (by kernel_rfl) (by kernel_rfl) (Below.refl _ W) ?_
    repeat (go_big_quiet_step ((go_at_call 53; exact kin_same (magnitude_any _ _ (by omega) (by omega)))))
    refine wpQuiet_nil ?_
    intro _ hw'
    obtain ⟨x2, hw''⟩ := hw'
    subst hw''
    go_wp2
    go_ret
    exact ⟨ret_bool HR.out.symm, hb1.trans (x2.below.mono hb1.size)⟩
  by_cases h3 : 1000000000000 < n.natAbs
  · have hr : Rt.ok n d = false := by unfold Rt.ok; exact decide_eq_false (by omega)
    have HR := Lib.hid hr
    clear hr
    have g1 : decide (0 < d) = true := by simp; omega
    have g2 : decide (d ≤ 1000000) = true := by simp; omega
    have g3 : decide ((n.natAbs : Int) ≤ 1000000000000) = false := by simp; omega
    go_enter Try.func43, Try.ntmps43
    go_wp2_with fail
    generalize w.alloc (.cells #[.int .i64 n, .int .i64 d] 34) = W at *
    have k0 := fun x : Kin W => x.cell c0
    have k1 := fun x : Kin W => x.cell c1
    refine wp_region_kin (by kernel_rfl) (by kernel_rfl) (Below.refl _ W) ?_
    repeat (go_big_quiet_step ((go_at_call 53; exact kin_same (magnitude_any _ _ (by omega) (by omega)))))
    refine wpQuiet_nil ?_
    intro _ hw'
    obtain ⟨x2, hw''⟩ := hw'
    subst hw''
    go_wp2
    go_ret
    exact ⟨ret_bool HR.out.symm, hb1.trans (x2.below.mono hb1.size)⟩
  have hr : Rt.ok n d = decide ((Nat.gcd n.natAbs d.natAbs : Int) = 1) := by
    unfold Rt.ok
    exact decide_eq_decide.2 ⟨fun h => by exact_mod_cast h.2.2.2, fun h => ⟨by omega, by omega, by omega, by exact_mod_cast h⟩⟩
  have HR := Lib.hid hr
  clear hr
  have g1 : decide (0 < d) = true := by simp; omega
  have g2 : decide (d ≤ 1000000) = true := by simp; omega
  have g3 : decide ((n.natAbs : Int) ≤ 1000000000000) = true := by simp; omega
  go_enter Try.func43, Try.ntmps43
  go_wp2_with fail
  generalize w.alloc (.cells #[.int .i64 n, .int .i64 d] 34) = W at *
  have keepS : ∀ w', Below W.heap.size W w' → Below W.heap.size W w' ∧ w'.cell? ⟨w.heap.size, 0, none⟩ = some (.int .i64 n) ∧ w'.cell? ⟨w.heap.size, 1, none⟩ = some (.int .i64 d) :=
    fun w' hb => ⟨hb, (Kin.mk w' hb).cell c0, (Kin.mk w' hb).cell c1⟩
  have KS := Lib.hid keepS
  clear keepS
  go_region_held3 (fun w' => Below W.heap.size W w' ∧ w'.cell? ⟨w.heap.size, 0, none⟩ = some (.int .i64 n) ∧ w'.cell? ⟨w.heap.size, 1, none⟩ = some (.int .i64 d))
    (exact KS.out _ (by repeat (first | exact Below.refl _ _ | assumption | refine below_alloc ?_ _ | refine Below.drew ?_)))
    (first
    | (go_at_call 53; refine (magnitude_any _ _ (by omega) (by omega)).mono ?_; rintro e w' ⟨rfl, rfl⟩)
    | (go_at_call 54; refine (common2_any _ n.natAbs d.natAbs _ _ (by omega) (by omega) (Row.drew (row_new _ _ _))).mono ?_; rintro e w' ⟨rfl, hb⟩;
       replace hb : Below W.heap.size W w' := Below.trans (Below.drew (below_alloc (Below.refl _ _) _)) (hb.mono (by simp))))
  all_goals go_wp2
  all_goals
    go_ret
    exact ⟨ret_bool (by rw [HR.out]; rfl), hb1.trans (Below.mono ‹_› hb1.size)⟩
end Go.Proofs.Ytgggekjhfdkgkaa
