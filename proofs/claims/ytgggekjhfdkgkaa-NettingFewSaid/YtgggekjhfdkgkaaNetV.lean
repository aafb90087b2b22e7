/- The walk of netting.Valid. -/
import Derived.Test.YtgggekjhfdkgkaaNetS
namespace Go.Proofs.Ytgggekjhfdkgkaa
open Go.RowKit Go.Shelf

theorem party_any (p m : Int) (b : Nat) (v : Bool) (w : World) (c0 : w.cell? ⟨b, 0, none⟩ = some (.int .i64 m)) (hv : Hid (decide (0 ≤ p ∧ p < m) = v)) :
    Calls Try.prog 40 #[.int .i64 p, .pointer (some ⟨b, 0, none⟩)] w fun e w' => e = .returned (.bool v) ∧ Below w.heap.size w w' := by
  by_cases h : 0 ≤ p
  · have g1 : decide (0 ≤ p) = true := by simpa using h
    have hr : v = decide (p < m) := by rw [← hv.out]; simp [h]
    have HR := Lib.hid hr
    clear h hr
    go_enter Try.func40, Try.ntmps40
    go_wp2
    go_ret
    exact ⟨ret_bool HR.out.symm, Below.refl _ _⟩
  · have g1 : decide (0 ≤ p) = false := by simpa using h
    have hr : v = false := by rw [← hv.out]; simp [h]
    have HR := Lib.hid hr
    clear h hr
    go_enter Try.func40, Try.ntmps40
    go_wp2
    go_ret
    exact ⟨ret_bool HR.out.symm, Below.refl _ _⟩
-- valid2
set_option maxHeartbeats 4000000 in
theorem valid2_any (x : Nt.Debt) (m : Int) (bp bf : Nat) (w : World) (n1 : -9223372036854775808 ≤ x.n) (n2 : x.n ≤ 9223372036854775807)
    (p0 : w.cell? ⟨bp, 0, none⟩ = some (.int .i64 m)) (q0 : w.cell? ⟨bf, 0, none⟩ = some (.func (.func 40) #[] #[.pointer (some ⟨bp, 0, none⟩)])) :
    Calls Try.prog 42 #[dval x, .pointer (some ⟨bf, 0, none⟩)] w fun e w' => e = .returned (.bool (!Nt.okD m x)) ∧ Below w.heap.size w w' := by
  have l1 := World.block_lt_of_cell? w _ p0
  have l2 := World.block_lt_of_cell? w _ q0
  have hb1 : Below w.heap.size w (w.alloc (.cells #[.int .i64 x.f, .int .i64 x.t, .int .i64 x.n, .int .i64 x.d] 38)) := below_alloc (Below.refl _ _) _
  have P0 : (w.alloc (.cells #[.int .i64 x.f, .int .i64 x.t, .int .i64 x.n, .int .i64 x.d] 38)).cell? ⟨bp, 0, none⟩ = some (.int .i64 m) := (Kin.mk _ hb1).cell p0
  have Q0 : (w.alloc (.cells #[.int .i64 x.f, .int .i64 x.t, .int .i64 x.n, .int .i64 x.d] 38)).cell? ⟨bf, 0, none⟩ = some (.func (.func 40) #[] #[.pointer (some ⟨bp, 0, none⟩)]) := (Kin.mk _ hb1).cell q0
  have d0 : (w.alloc (.cells #[.int .i64 x.f, .int .i64 x.t, .int .i64 x.n, .int .i64 x.d] 38)).cell? ⟨w.heap.size, 0, none⟩ = some (.int .i64 x.f) := by go_simp
  have d1 : (w.alloc (.cells #[.int .i64 x.f, .int .i64 x.t, .int .i64 x.n, .int .i64 x.d] 38)).cell? ⟨w.heap.size, 1, none⟩ = some (.int .i64 x.t) := by go_simp
  have d2 : (w.alloc (.cells #[.int .i64 x.f, .int .i64 x.t, .int .i64 x.n, .int .i64 x.d] 38)).cell? ⟨w.heap.size, 2, none⟩ = some (.int .i64 x.n) := by go_simp
  have d3 : (w.alloc (.cells #[.int .i64 x.f, .int .i64 x.t, .int .i64 x.n, .int .i64 x.d] 38)).cell? ⟨w.heap.size, 3, none⟩ = some (.int .i64 x.d) := by go_simp
  by_cases h1 : 0 ≤ x.f ∧ x.f < m
  rotate_left
  · have HV1 : Hid (decide (0 ≤ x.f ∧ x.f < m) = false) := Lib.hid (by simpa using h1)
    have hr : Nt.okD m x = false := by unfold Nt.okD; rw [HV1.out]; rfl
    have HR := Lib.hid hr
    clear hr h1
    go_enter Try.func42, Try.ntmps42
    go_wp2_with fail
    generalize (w.alloc (.cells #[.int .i64 x.f, .int .i64 x.t, .int .i64 x.n, .int .i64 x.d] 38)) = W at *
    have kp := fun x : Kin W => x.cell P0
    have kq := fun x : Kin W => x.cell Q0
    have k0 := fun x : Kin W => x.cell d0
    have k1 := fun x : Kin W => x.cell d1
    have k2 := fun x : Kin W => x.cell d2
    have k3 := fun x : Kin W => x.cell d3
    go_wp2_with
      (first
      | (go_at_call 40; (with_reducible refine (party_any _ m bp _ _ (by first | assumption | exact Kin.cell P0 _) (by assumption)).mono ?_); rintro e w' ⟨rfl, hb⟩; obtain ⟨y, rfl⟩ := Kin.more (W := W) (by first | exact Below.refl _ _ | exact Kin.below _) hb; clear hb)
      | (go_at_call 43; (with_reducible refine (rvalid_is _ _ _ _ (by assumption) n1 n2).mono ?_); rintro e w' ⟨rfl, hb⟩; obtain ⟨y, rfl⟩ := Kin.more (W := W) (by first | exact Below.refl _ _ | exact Kin.below _) hb; clear hb))
    go_ret
    exact ⟨ret_bool (by rw [HR.out]; first | done | rfl), hb1.trans (Below.mono (Kin.below _) hb1.size)⟩
  have HV1 : Hid (decide (0 ≤ x.f ∧ x.f < m) = true) := Lib.hid (by simpa using h1)
  clear h1
  by_cases h2 : 0 ≤ x.t ∧ x.t < m
  rotate_left
  · have HV2 : Hid (decide (0 ≤ x.t ∧ x.t < m) = false) := Lib.hid (by simpa using h2)
    have hr : Nt.okD m x = false := by unfold Nt.okD; rw [HV1.out, HV2.out]; rfl
    have HR := Lib.hid hr
    clear hr h2
    go_enter Try.func42, Try.ntmps42
    go_wp2_with fail
    generalize (w.alloc (.cells #[.int .i64 x.f, .int .i64 x.t, .int .i64 x.n, .int .i64 x.d] 38)) = W at *
    have kp := fun x : Kin W => x.cell P0
    have kq := fun x : Kin W => x.cell Q0
    have k0 := fun x : Kin W => x.cell d0
    have k1 := fun x : Kin W => x.cell d1
    have k2 := fun x : Kin W => x.cell d2
    have k3 := fun x : Kin W => x.cell d3
    go_wp2_with
      (first
      | (go_at_call 40; (with_reducible refine (party_any _ m bp _ _ (by first | assumption | exact Kin.cell P0 _) (by assumption)).mono ?_); rintro e w' ⟨rfl, hb⟩; obtain ⟨y, rfl⟩ := Kin.more (W := W) (by first | exact Below.refl _ _ | exact Kin.below _) hb; clear hb)
      | (go_at_call 43; (with_reducible refine (rvalid_is _ _ _ _ (by assumption) n1 n2).mono ?_); rintro e w' ⟨rfl, hb⟩; obtain ⟨y, rfl⟩ := Kin.more (W := W) (by first | exact Below.refl _ _ | exact Kin.below _) hb; clear hb))
    go_ret
    exact ⟨ret_bool (by rw [HR.out]; first | done | rfl), hb1.trans (Below.mono (Kin.below _) hb1.size)⟩
  have HV2 : Hid (decide (0 ≤ x.t ∧ x.t < m) = true) := Lib.hid (by simpa using h2)
  clear h2
  by_cases h3 : x.f = x.t
  · have HV3 : Hid (decide (x.f ≠ x.t) = false) := Lib.hid (by simpa using h3)
    have g3 : (x.f == x.t) = true := by simpa using h3
    have hr : Nt.okD m x = false := by unfold Nt.okD; rw [HV1.out, HV2.out, HV3.out]; rfl
    have HR := Lib.hid hr
    clear hr h3
    go_enter Try.func42, Try.ntmps42
    go_wp2_with fail
    generalize (w.alloc (.cells #[.int .i64 x.f, .int .i64 x.t, .int .i64 x.n, .int .i64 x.d] 38)) = W at *
    have kp := fun x : Kin W => x.cell P0
    have kq := fun x : Kin W => x.cell Q0
    have k0 := fun x : Kin W => x.cell d0
    have k1 := fun x : Kin W => x.cell d1
    have k2 := fun x : Kin W => x.cell d2
    have k3 := fun x : Kin W => x.cell d3
    go_wp2_with
      (first
      | (go_at_call 40; (with_reducible refine (party_any _ m bp _ _ (by first | assumption | exact Kin.cell P0 _) (by assumption)).mono ?_); rintro e w' ⟨rfl, hb⟩; obtain ⟨y, rfl⟩ := Kin.more (W := W) (by first | exact Below.refl _ _ | exact Kin.below _) hb; clear hb)
      | (go_at_call 43; (with_reducible refine (rvalid_is _ _ _ _ (by assumption) n1 n2).mono ?_); rintro e w' ⟨rfl, hb⟩; obtain ⟨y, rfl⟩ := Kin.more (W := W) (by first | exact Below.refl _ _ | exact Kin.below _) hb; clear hb))
    go_ret
    exact ⟨ret_bool (by rw [HR.out]; first | done | rfl), hb1.trans (Below.mono (Kin.below _) hb1.size)⟩
  have HV3 : Hid (decide (x.f ≠ x.t) = true) := Lib.hid (by simpa using h3)
  have g3 : (x.f == x.t) = false := by simpa using h3
  clear h3
  cases h4 : Rt.ok x.n x.d
  · have HV4 := Lib.hid h4
    have hr : Nt.okD m x = false := by unfold Nt.okD; rw [HV1.out, HV2.out, HV3.out, HV4.out]; rfl
    have HR := Lib.hid hr
    clear hr h4
    go_enter Try.func42, Try.ntmps42
    go_wp2_with fail
    generalize (w.alloc (.cells #[.int .i64 x.f, .int .i64 x.t, .int .i64 x.n, .int .i64 x.d] 38)) = W at *
    have kp := fun x : Kin W => x.cell P0
    have kq := fun x : Kin W => x.cell Q0
    have k0 := fun x : Kin W => x.cell d0
    have k1 := fun x : Kin W => x.cell d1
    have k2 := fun x : Kin W => x.cell d2
    have k3 := fun x : Kin W => x.cell d3
    go_wp2_with
      (first
      | (go_at_call 40; (with_reducible refine (party_any _ m bp _ _ (by first | assumption | exact Kin.cell P0 _) (by assumption)).mono ?_); rintro e w' ⟨rfl, hb⟩; obtain ⟨y, rfl⟩ := Kin.more (W := W) (by first | exact Below.refl _ _ | exact Kin.below _) hb; clear hb)
      | (go_at_call 43; (with_reducible refine (rvalid_is _ _ _ _ (by assumption) n1 n2).mono ?_); rintro e w' ⟨rfl, hb⟩; obtain ⟨y, rfl⟩ := Kin.more (W := W) (by first | exact Below.refl _ _ | exact Kin.below _) hb; clear hb))
    go_ret
    exact ⟨ret_bool (by rw [HR.out]; first | done | rfl), hb1.trans (Below.mono (Kin.below _) hb1.size)⟩
  have HV4 := Lib.hid h4
  have hr : (!Nt.okD m x) = decide (x.n ≤ 0) := by
    unfold Nt.okD; rw [HV1.out, HV2.out, HV3.out, HV4.out]; by_cases h5 : 0 < x.n <;> simp [h5] <;> omega
  have HR := Lib.hid hr
  clear hr h4
  go_enter Try.func42, Try.ntmps42
  go_wp2_with fail
  generalize (w.alloc (.cells #[.int .i64 x.f, .int .i64 x.t, .int .i64 x.n, .int .i64 x.d] 38)) = W at *
  have kp := fun x : Kin W => x.cell P0
  have kq := fun x : Kin W => x.cell Q0
  have k0 := fun x : Kin W => x.cell d0
  have k1 := fun x : Kin W => x.cell d1
  have k2 := fun x : Kin W => x.cell d2
  have k3 := fun x : Kin W => x.cell d3
  go_wp2_with
    (first
    | (go_at_call 40; (with_reducible refine (party_any _ m bp _ _ (by first | assumption | exact Kin.cell P0 _) (by assumption)).mono ?_); rintro e w' ⟨rfl, hb⟩; obtain ⟨y, rfl⟩ := Kin.more (W := W) (by first | exact Below.refl _ _ | exact Kin.below _) hb; clear hb)
    | (go_at_call 43; (with_reducible refine (rvalid_is _ _ _ _ (by assumption) n1 n2).mono ?_); rintro e w' ⟨rfl, hb⟩; obtain ⟨y, rfl⟩ := Kin.more (W := W) (by first | exact Below.refl _ _ | exact Kin.below _) hb; clear hb))
  go_ret
  exact ⟨ret_bool (by rw [HR.out]; first | done | rfl), hb1.trans (Below.mono (Kin.below _) hb1.size)⟩
end Go.Proofs.Ytgggekjhfdkgkaa
