/- The walks of package ratio: reduced, Make, Add, Sub, Cmp. -/
import Derived.Test.YtgggekjhfdkgkaaRatW
namespace Go.Proofs.Ytgggekjhfdkgkaa
open Go.RowKit Go.Shelf

/-- A ratio and an error, as a triple. -/
abbrev ret3 (x : Int × Int × Int) : Ending := retR x.1 x.2.1 x.2.2
theorem retR_eq {n d e n' d' e' : Int} (h1 : n = n') (h2 : d = d') (h3 : e = e') : retR n d e = retR n' d' e' := by rw [h1, h2, h3]

theorem reduced_any (neg : Bool) (a b : Nat) (w : World) (ha : a ≤ 9223372036854775808) (hb : b ≤ 9223372036854775808) (hb0 : 0 < b) :
    Calls Try.prog 57 #[.bool neg, .int .u64 (a : Int), .int .u64 (b : Int)] w fun e w' => e = ret3 (Rt.red neg a b) ∧ Below w.heap.size w w' := by
  have hW1 : Below w.heap.size w (w.alloc (.cells #[.int .i64 0, .int .i64 0] 34)) := (Below.refl _ _).alloc (Nat.le_refl _) _
  have c0 : (w.alloc (.cells #[.int .i64 0, .int .i64 0] 34)).cell? ⟨w.heap.size, 0, none⟩ = some (.int .i64 0) := by go_simp
  have c1 : (w.alloc (.cells #[.int .i64 0, .int .i64 0] 34)).cell? ⟨w.heap.size, 1, none⟩ = some (.int .i64 0) := by go_simp
  have f0 : ∀ k, (w.alloc (.cells #[.int .i64 0, .int .i64 0] 34)).frozen? ⟨w.heap.size, k, none⟩ = false := by intro k; go_simp
  have hg : 0 < Nat.gcd a b := Nat.gcd_pos_of_pos_right _ hb0
  have q1 : a / Nat.gcd a b ≤ a := Nat.div_le_self _ _
  have q2 : b / Nat.gcd a b ≤ b := Nat.div_le_self _ _
  have hred : Rt.red neg a b = if 1000000000000 < a / Nat.gcd a b ∨ 1000000 < b / Nat.gcd a b then (0, 0, 2) else (if neg = true then -((a / Nat.gcd a b : Nat) : Int) else ((a / Nat.gcd a b : Nat) : Int), ((b / Nat.gcd a b : Nat) : Int), 0) := rfl
  have HR := Lib.hid hred
  clear hred
  go_enter Try.func57, Try.ntmps57
  go_wp2_with fail
  have hsz : (w.alloc (.cells #[.int .i64 0, .int .i64 0] 34)).heap.size = w.heap.size + 1 := by simp
  generalize w.alloc (.cells #[.int .i64 0, .int .i64 0] 34) = W at *
  have k0 := fun x : Kin W => x.cell c0
  have k1 := fun x : Kin W => x.cell c1
  have hlt : w.heap.size < W.heap.size := World.block_lt_of_cell? W _ c0
  have kf := fun (x : Kin W) k => (x.below.frozen (p := ⟨w.heap.size, k, none⟩) hlt).trans (f0 k)
  have hrow := row_new W [.int .u64 (a : Int), .int .u64 (b : Int)] 65
  rw [hsz] at hrow
  clear c0 c1 f0
  refine (common2_any _ a b _ _ (by omega) (by omega) hrow).mono ?_
  clear hrow hsz
  rintro e w' ⟨rfl, hb'⟩
  obtain ⟨x, rfl⟩ := Kin.more (W := W) (below_alloc (Below.refl _ _) _) hb'
  clear hb'
  generalize Nat.gcd a b = g at *
  go_wp2_with fail
  have ea : (a : Int) / (g : Int) = ((a / g : Nat) : Int) := by simp
  have eb : (b : Int) / (g : Int) = ((b / g : Nat) : Int) := by simp
  have EA := Lib.hid ea
  have EB := Lib.hid eb
  have na : 0 ≤ (a : Int) / (g : Int) := by rw [ea]; exact Int.natCast_nonneg _
  have nb : 0 ≤ (b : Int) / (g : Int) := by rw [eb]; exact Int.natCast_nonneg _
  have la : (a : Int) / (g : Int) ≤ 9223372036854775808 := by omega
  have lb : (b : Int) / (g : Int) ≤ 9223372036854775808 := by omega
  have wa : IntKind.u64.wrap ((a : Int) / (g : Int)) = (a : Int) / (g : Int) := by rw [IntKind.wrap_u64]; omega
  have wb : IntKind.u64.wrap ((b : Int) / (g : Int)) = (b : Int) / (g : Int) := by rw [IntKind.wrap_u64]; omega
  clear ea eb
  refine wp_region_kin (by kernel_rfl) (by kernel_rfl) x.below ?_
  repeat (go_big_quiet_step (fail))
  refine wpQuiet_nil ?_
  intro _ hw'
  obtain ⟨x2, hw''⟩ := hw'
  subst hw''
  clear wa wb
  generalize hqa : (a : Int) / (g : Int) = qa at *
  generalize hqb : (b : Int) / (g : Int) = qb at *
  have HQA := Lib.hid hqa
  have HQB := Lib.hid hqb
  clear hqa hqb
  have fin : ∀ v1 v2 : Value, Below w.heap.size w ((x2.w.setCell ⟨w.heap.size, 0, none⟩ v1).setCell ⟨w.heap.size, 1, none⟩ v2) :=
    fun _ _ => (((hW1.trans (x2.below.mono hW1.size)).setCell (Nat.le_refl _) _).setCell (Nat.le_refl _) _)
  by_cases h1 : 1000000000000 < qa
  · go_wp2
    exact bodyPost_ret (v := .tuple #[.agg #[.int .i64 0, .int .i64 0], .int .i64 2]) (by simp [results, Try.results57, go_sem, k0, k1]) rfl
      ⟨by rw [HR.out, if_pos (.inl (by have := EA.out; omega))], fin _ _⟩
  by_cases h2 : 1000000 < qb
  · go_wp2
    exact bodyPost_ret (v := .tuple #[.agg #[.int .i64 0, .int .i64 0], .int .i64 2]) (by simp [results, Try.results57, go_sem, k0, k1]) rfl
      ⟨by rw [HR.out, if_pos (.inr (by have := EB.out; omega))], fin _ _⟩
  have hneg : Rt.red neg a b = (if neg = true then -qa else qa, qb, 0) := by
    rw [HR.out, if_neg (by have := EA.out; have := EB.out; omega), ← EA.out, ← EB.out]
  have HN := Lib.hid hneg
  clear hneg
  cases neg
  · go_wp2
    exact bodyPost_ret (v := .tuple #[.agg #[.int .i64 qa, .int .i64 qb], .int .i64 0]) (by simp [results, Try.results57, go_sem, k0, k1]) rfl
      ⟨by rw [HN.out]; rfl, fin _ _⟩
  · go_wp2
    exact bodyPost_ret (v := .tuple #[.agg #[.int .i64 (-qa), .int .i64 qb], .int .i64 0]) (by simp [results, Try.results57, go_sem, k0, k1]) rfl
      ⟨by rw [HN.out]; rfl, fin _ _⟩

theorem make_any (n d : Int) (w : World) (n1 : -9223372036854775808 ≤ n) (n2 : n ≤ 9223372036854775807) (d1 : -9223372036854775808 ≤ d) (d2 : d ≤ 9223372036854775807) :
    Calls Try.prog 47 #[.int .i64 n, .int .i64 d] w fun e w' => e = ret3 (Rt.make n d) ∧ Below w.heap.size w w' := by
  have hW1 : Below w.heap.size w (w.alloc (.cells #[.int .i64 0, .int .i64 0] 34)) := (Below.refl _ _).alloc (Nat.le_refl _) _
  have c0 : (w.alloc (.cells #[.int .i64 0, .int .i64 0] 34)).cell? ⟨w.heap.size, 0, none⟩ = some (.int .i64 0) := by go_simp
  have c1 : (w.alloc (.cells #[.int .i64 0, .int .i64 0] 34)).cell? ⟨w.heap.size, 1, none⟩ = some (.int .i64 0) := by go_simp
  have f0 : ∀ k, (w.alloc (.cells #[.int .i64 0, .int .i64 0] 34)).frozen? ⟨w.heap.size, k, none⟩ = false := by intro k; go_simp
  by_cases hd : d = 0
  · subst hd
    have hm : Rt.make n 0 = (0, 0, 1) := by unfold Rt.make; rw [if_pos rfl]
    have HM := Lib.hid hm
    clear hm
    go_enter Try.func47, Try.ntmps47
    go_wp2
    exact bodyPost_ret (v := .tuple #[.agg #[.int .i64 0, .int .i64 0], .int .i64 1]) (by simp [results, Try.results47, go_sem]) rfl ⟨by rw [HM.out], hW1⟩
  · have HM := Lib.hid (Rt.make_red (n := n) hd)
    go_enter Try.func47, Try.ntmps47
    go_wp2_with fail
    generalize w.alloc (.cells #[.int .i64 0, .int .i64 0] 34) = W at *
    have k0 := fun x : Kin W => x.cell c0
    have k1 := fun x : Kin W => x.cell c1
    have hlt : w.heap.size < W.heap.size := World.block_lt_of_cell? W _ c0
    have kf := fun (x : Kin W) k => (x.below.frozen (p := ⟨w.heap.size, k, none⟩) hlt).trans (f0 k)
    clear c0 c1 f0
    go_wp2_with (first
      | (go_at_call 53; refine (magnitude_any _ _ (by omega) (by omega)).mono ?_; rintro e w' ⟨rfl, rfl⟩)
      | (go_at_call 57; refine (reduced_any (decide (n < 0) != decide (d < 0)) n.natAbs d.natAbs _ (by omega) (by omega) (by omega)).mono ?_; rw [← HM.out]; rintro e w' ⟨rfl, hb⟩; obtain ⟨x, rfl⟩ := Kin.start hb; clear hb))
    exact bodyPost_ret (v := .tuple #[.agg #[.int .i64 (Rt.make n d).1, .int .i64 (Rt.make n d).2.1], .int .i64 (Rt.make n d).2.2]) (by simp [results, Try.results47, go_sem, k0, k1]) rfl
      ⟨rfl, (((hW1.trans (x.below.mono hW1.size)).setCell (Nat.le_refl _) _).setCell (Nat.le_refl _) _)⟩
end Go.Proofs.Ytgggekjhfdkgkaa
