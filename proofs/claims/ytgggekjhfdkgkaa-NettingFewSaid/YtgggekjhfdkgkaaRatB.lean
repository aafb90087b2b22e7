/- The walks of package ratio: on, Add, Sub, Cmp. -/
import Derived.Test.YtgggekjhfdkgkaaRatA
namespace Go.Proofs.Ytgggekjhfdkgkaa
open Go.RowKit Go.Shelf

theorem rvalid_is (n d : Int) (b : Bool) (w : World) (h : Hid (Rt.ok n d = b)) (n1 : -9223372036854775808 ≤ n) (n2 : n ≤ 9223372036854775807) :
    Calls Try.prog 43 #[.agg #[.int .i64 n, .int .i64 d]] w fun e w' => e = .returned (.bool b) ∧ Below w.heap.size w w' := by
  have k := rvalid_any n d w n1 n2
  rw [h.out] at k; exact k

/-- on: the result of f where both ratios are valid. -/
theorem on_no (g : Nat) (cb : Array Value) (an ad bn bd : Int) (w : World) (n1 : -9223372036854775808 ≤ an) (n2 : an ≤ 9223372036854775807) (m1 : -9223372036854775808 ≤ bn) (m2 : bn ≤ 9223372036854775807) (h : Rt.ok an ad = false ∨ Rt.ok bn bd = false) :
    Calls Try.prog 45 #[.agg #[.int .i64 an, .int .i64 ad], .agg #[.int .i64 bn, .int .i64 bd], .func (.func g) #[] cb] w fun e w' => e = ret3 (0, 0, 1) ∧ Below w.heap.size w w' := by
  have hW1 : Below w.heap.size w (((w.alloc (.cells #[.int .i64 an, .int .i64 ad] 34)).alloc (.cells #[.int .i64 bn, .int .i64 bd] 34)).alloc (.cells #[.int .i64 0, .int .i64 0] 34)) := below_alloc (below_alloc (below_alloc (Below.refl _ _) _) _) _
  have a0 : (((w.alloc (.cells #[.int .i64 an, .int .i64 ad] 34)).alloc (.cells #[.int .i64 bn, .int .i64 bd] 34)).alloc (.cells #[.int .i64 0, .int .i64 0] 34)).cell? ⟨w.heap.size, 0, none⟩ = some (.int .i64 an) := by go_simp
  have a1 : (((w.alloc (.cells #[.int .i64 an, .int .i64 ad] 34)).alloc (.cells #[.int .i64 bn, .int .i64 bd] 34)).alloc (.cells #[.int .i64 0, .int .i64 0] 34)).cell? ⟨w.heap.size, 1, none⟩ = some (.int .i64 ad) := by go_simp
  have b0 : (((w.alloc (.cells #[.int .i64 an, .int .i64 ad] 34)).alloc (.cells #[.int .i64 bn, .int .i64 bd] 34)).alloc (.cells #[.int .i64 0, .int .i64 0] 34)).cell? ⟨w.heap.size + 1, 0, none⟩ = some (.int .i64 bn) := by go_simp
  have b1 : (((w.alloc (.cells #[.int .i64 an, .int .i64 ad] 34)).alloc (.cells #[.int .i64 bn, .int .i64 bd] 34)).alloc (.cells #[.int .i64 0, .int .i64 0] 34)).cell? ⟨w.heap.size + 1, 1, none⟩ = some (.int .i64 bd) := by go_simp
  have c0 : (((w.alloc (.cells #[.int .i64 an, .int .i64 ad] 34)).alloc (.cells #[.int .i64 bn, .int .i64 bd] 34)).alloc (.cells #[.int .i64 0, .int .i64 0] 34)).cell? ⟨w.heap.size + 1 + 1, 0, none⟩ = some (.int .i64 0) := by go_simp
  have c1 : (((w.alloc (.cells #[.int .i64 an, .int .i64 ad] 34)).alloc (.cells #[.int .i64 bn, .int .i64 bd] 34)).alloc (.cells #[.int .i64 0, .int .i64 0] 34)).cell? ⟨w.heap.size + 1 + 1, 1, none⟩ = some (.int .i64 0) := by go_simp
  have f0 : ∀ k, (((w.alloc (.cells #[.int .i64 an, .int .i64 ad] 34)).alloc (.cells #[.int .i64 bn, .int .i64 bd] 34)).alloc (.cells #[.int .i64 0, .int .i64 0] 34)).frozen? ⟨w.heap.size + 1 + 1, k, none⟩ = false := by intro k; go_simp
  cases ha : Rt.ok an ad
  · have HA := Lib.hid ha
    clear ha h
    go_enter Try.func45, Try.ntmps45
    go_wp2_with fail
    generalize (((w.alloc (.cells #[.int .i64 an, .int .i64 ad] 34)).alloc (.cells #[.int .i64 bn, .int .i64 bd] 34)).alloc (.cells #[.int .i64 0, .int .i64 0] 34)) = W at *
    have ka0 := fun x : Kin W => x.cell a0
    have ka1 := fun x : Kin W => x.cell a1
    have kb0 := fun x : Kin W => x.cell b0
    have kb1 := fun x : Kin W => x.cell b1
    have k0 := fun x : Kin W => x.cell c0
    have k1 := fun x : Kin W => x.cell c1
    have hlt : w.heap.size + 1 + 1 < W.heap.size := World.block_lt_of_cell? W _ c0
    have kf := fun (x : Kin W) k => (x.below.frozen (p := ⟨w.heap.size + 1 + 1, k, none⟩) hlt).trans (f0 k)
    clear f0
    go_wp2_with (go_at_call 43; (with_reducible refine (rvalid_is _ _ _ _ (by assumption) (by omega) (by omega)).mono ?_); rintro e w' ⟨rfl, hb⟩; obtain ⟨x, rfl⟩ := Kin.more (W := W) (by repeat (first | exact Below.refl _ _ | exact Kin.below _ | refine below_alloc ?_ _)) hb; clear hb)
    exact bodyPost_ret (v := .tuple #[.agg #[.int .i64 0, .int .i64 0], .int .i64 1]) (by simp [results, Try.results45, go_sem, k0, k1, c0, c1]) rfl ⟨rfl, (((hW1.trans (x.below.mono hW1.size)).setCell (by show w.heap.size ≤ w.heap.size + 1 + 1; omega) _).setCell (by show w.heap.size ≤ w.heap.size + 1 + 1; omega) _)⟩
  · have hb : Rt.ok bn bd = false := by rw [ha] at h; simpa using h
    have HA := Lib.hid ha
    have HB := Lib.hid hb
    clear ha hb h
    go_enter Try.func45, Try.ntmps45
    go_wp2_with fail
    generalize (((w.alloc (.cells #[.int .i64 an, .int .i64 ad] 34)).alloc (.cells #[.int .i64 bn, .int .i64 bd] 34)).alloc (.cells #[.int .i64 0, .int .i64 0] 34)) = W at *
    have ka0 := fun x : Kin W => x.cell a0
    have ka1 := fun x : Kin W => x.cell a1
    have kb0 := fun x : Kin W => x.cell b0
    have kb1 := fun x : Kin W => x.cell b1
    have k0 := fun x : Kin W => x.cell c0
    have k1 := fun x : Kin W => x.cell c1
    have hlt : w.heap.size + 1 + 1 < W.heap.size := World.block_lt_of_cell? W _ c0
    have kf := fun (x : Kin W) k => (x.below.frozen (p := ⟨w.heap.size + 1 + 1, k, none⟩) hlt).trans (f0 k)
    clear f0
    go_wp2_with (go_at_call 43; (with_reducible refine (rvalid_is _ _ _ _ (by assumption) (by omega) (by omega)).mono ?_); rintro e w' ⟨rfl, hb⟩; obtain ⟨x, rfl⟩ := Kin.more (W := W) (by repeat (first | exact Below.refl _ _ | exact Kin.below _ | refine below_alloc ?_ _)) hb; clear hb)
    exact bodyPost_ret (v := .tuple #[.agg #[.int .i64 0, .int .i64 0], .int .i64 1]) (by simp [results, Try.results45, go_sem, k0, k1, c0, c1]) rfl ⟨rfl, (((hW1.trans (Below.mono (Kin.below _) hW1.size)).setCell (by show w.heap.size ≤ w.heap.size + 1 + 1; omega) _).setCell (by show w.heap.size ≤ w.heap.size + 1 + 1; omega) _)⟩

theorem on_yes (g : Nat) (cb : Array Value) (an ad bn bd : Int) (r1 r2 r3 : Int) (w : World) (n1 : -9223372036854775808 ≤ an) (n2 : an ≤ 9223372036854775807) (m1 : -9223372036854775808 ≤ bn) (m2 : bn ≤ 9223372036854775807) (ha : Rt.ok an ad = true) (hb : Rt.ok bn bd = true)
    (eg : ∀ args w, (callFunc g args).run Try.prog w = .ok (.enter g args) w)
    (hf : ∀ x : Kin w, Calls Try.prog g cb x.w fun e w' => e = retR r1 r2 r3 ∧ Below x.w.heap.size x.w w') :
    Calls Try.prog 45 #[.agg #[.int .i64 an, .int .i64 ad], .agg #[.int .i64 bn, .int .i64 bd], .func (.func g) #[] cb] w fun e w' => e = retR r1 r2 r3 ∧ Below w.heap.size w w' := by
  have hW1 : Below w.heap.size w (((w.alloc (.cells #[.int .i64 an, .int .i64 ad] 34)).alloc (.cells #[.int .i64 bn, .int .i64 bd] 34)).alloc (.cells #[.int .i64 0, .int .i64 0] 34)) := below_alloc (below_alloc (below_alloc (Below.refl _ _) _) _) _
  have a0 : (((w.alloc (.cells #[.int .i64 an, .int .i64 ad] 34)).alloc (.cells #[.int .i64 bn, .int .i64 bd] 34)).alloc (.cells #[.int .i64 0, .int .i64 0] 34)).cell? ⟨w.heap.size, 0, none⟩ = some (.int .i64 an) := by go_simp
  have a1 : (((w.alloc (.cells #[.int .i64 an, .int .i64 ad] 34)).alloc (.cells #[.int .i64 bn, .int .i64 bd] 34)).alloc (.cells #[.int .i64 0, .int .i64 0] 34)).cell? ⟨w.heap.size, 1, none⟩ = some (.int .i64 ad) := by go_simp
  have b0 : (((w.alloc (.cells #[.int .i64 an, .int .i64 ad] 34)).alloc (.cells #[.int .i64 bn, .int .i64 bd] 34)).alloc (.cells #[.int .i64 0, .int .i64 0] 34)).cell? ⟨w.heap.size + 1, 0, none⟩ = some (.int .i64 bn) := by go_simp
  have b1 : (((w.alloc (.cells #[.int .i64 an, .int .i64 ad] 34)).alloc (.cells #[.int .i64 bn, .int .i64 bd] 34)).alloc (.cells #[.int .i64 0, .int .i64 0] 34)).cell? ⟨w.heap.size + 1, 1, none⟩ = some (.int .i64 bd) := by go_simp
  have c0 : (((w.alloc (.cells #[.int .i64 an, .int .i64 ad] 34)).alloc (.cells #[.int .i64 bn, .int .i64 bd] 34)).alloc (.cells #[.int .i64 0, .int .i64 0] 34)).cell? ⟨w.heap.size + 1 + 1, 0, none⟩ = some (.int .i64 0) := by go_simp
  have c1 : (((w.alloc (.cells #[.int .i64 an, .int .i64 ad] 34)).alloc (.cells #[.int .i64 bn, .int .i64 bd] 34)).alloc (.cells #[.int .i64 0, .int .i64 0] 34)).cell? ⟨w.heap.size + 1 + 1, 1, none⟩ = some (.int .i64 0) := by go_simp
  have f0 : ∀ k, (((w.alloc (.cells #[.int .i64 an, .int .i64 ad] 34)).alloc (.cells #[.int .i64 bn, .int .i64 bd] 34)).alloc (.cells #[.int .i64 0, .int .i64 0] 34)).frozen? ⟨w.heap.size + 1 + 1, k, none⟩ = false := by intro k; go_simp
  have HA := Lib.hid ha
  have HB := Lib.hid hb
  have HF := Lib.hid hf
  clear ha hb hf
  go_enter Try.func45, Try.ntmps45
  go_wp2_with fail
  generalize (((w.alloc (.cells #[.int .i64 an, .int .i64 ad] 34)).alloc (.cells #[.int .i64 bn, .int .i64 bd] 34)).alloc (.cells #[.int .i64 0, .int .i64 0] 34)) = W at *
  have ka0 := fun x : Kin W => x.cell a0
  have ka1 := fun x : Kin W => x.cell a1
  have kb0 := fun x : Kin W => x.cell b0
  have kb1 := fun x : Kin W => x.cell b1
  have k0 := fun x : Kin W => x.cell c0
  have k1 := fun x : Kin W => x.cell c1
  have hlt : w.heap.size + 1 + 1 < W.heap.size := World.block_lt_of_cell? W _ c0
  have kf := fun (x : Kin W) k => (x.below.frozen (p := ⟨w.heap.size + 1 + 1, k, none⟩) hlt).trans (f0 k)
  clear f0
  go_wp2_with (first
    | (go_at_call 43; (with_reducible refine (rvalid_is _ _ _ _ (by assumption) (by omega) (by omega)).mono ?_); rintro e w' ⟨rfl, hb⟩; obtain ⟨x, rfl⟩ := Kin.more (W := W) (by repeat (first | exact Below.refl _ _ | exact Kin.below _ | refine below_alloc ?_ _)) hb; clear hb)
    | (go_at_fn g; refine (HF.out ⟨_, hW1.trans (Below.mono (Kin.below _) hW1.size)⟩).mono ?_; rintro e w' ⟨rfl, hb⟩; obtain ⟨x, rfl⟩ := Kin.more (W := W) (Kin.below _) hb; clear hb))
  exact bodyPost_ret (v := .tuple #[.agg #[.int .i64 r1, .int .i64 r2], .int .i64 r3]) (by simp [results, Try.results45, go_sem, k0, k1, c0, c1]) rfl ⟨rfl, (((hW1.trans (Below.mono (Kin.below _) hW1.size)).setCell (by show w.heap.size ≤ w.heap.size + 1 + 1; omega) _).setCell (by show w.heap.size ≤ w.heap.size + 1 + 1; omega) _)⟩

theorem add1_any (an ad bn bd : Int) (pa pb : Nat) (w : World) (ha : Rt.ok an ad = true) (hb : Rt.ok bn bd = true)
    (a0 : w.cell? ⟨pa, 0, none⟩ = some (.int .i64 an)) (a1 : w.cell? ⟨pa, 1, none⟩ = some (.int .i64 ad)) (b0 : w.cell? ⟨pb, 0, none⟩ = some (.int .i64 bn)) (b1 : w.cell? ⟨pb, 1, none⟩ = some (.int .i64 bd)) :
    Calls Try.prog 46 #[.pointer (some ⟨pa, 0, none⟩), .pointer (some ⟨pb, 0, none⟩)] w fun e w' => e = ret3 (Rt.add an ad bn bd) ∧ Below w.heap.size w w' := by
  obtain ⟨p1, p2, p3, _⟩ := Rt.ok_iff.1 ha
  obtain ⟨q1, q2, q3, _⟩ := Rt.ok_iff.1 hb
  obtain ⟨s1, s2⟩ := Rt.mul_bd an bd p3 q1 q2 rfl rfl
  obtain ⟨s3, s4⟩ := Rt.mul_bd bn ad q3 p1 p2 rfl rfl
  obtain ⟨s5, s6⟩ := Rt.mul_bd (n := ad) ad bd (by omega) q1 q2 rfl rfl
  have hm := Rt.add_make ha hb
  have HM := Lib.hid hm
  clear hm ha hb
  have l1 := World.block_lt_of_cell? w _ a0
  have l2 := World.block_lt_of_cell? w _ b0
  have hW1 : Below w.heap.size w (w.alloc (.cells #[.int .i64 0, .int .i64 0] 34)) := below_alloc (Below.refl _ _) _
  have c0 : (w.alloc (.cells #[.int .i64 0, .int .i64 0] 34)).cell? ⟨w.heap.size, 0, none⟩ = some (.int .i64 0) := by go_simp
  have c1 : (w.alloc (.cells #[.int .i64 0, .int .i64 0] 34)).cell? ⟨w.heap.size, 1, none⟩ = some (.int .i64 0) := by go_simp
  have f0 : ∀ k, (w.alloc (.cells #[.int .i64 0, .int .i64 0] 34)).frozen? ⟨w.heap.size, k, none⟩ = false := by intro k; go_simp
  go_enter Try.func46, Try.ntmps46
  go_wp2_with fail
  generalize w.alloc (.cells #[.int .i64 0, .int .i64 0] 34) = W at *
  have k0 := fun x : Kin W => x.cell c0
  have k1 := fun x : Kin W => x.cell c1
  have hlt : w.heap.size < W.heap.size := World.block_lt_of_cell? W _ c0
  have kf := fun (x : Kin W) k => (x.below.frozen (p := ⟨w.heap.size, k, none⟩) hlt).trans (f0 k)
  clear f0
  go_wp2_with (go_at_call 47; refine (make_any (an * bd + bn * ad) (ad * bd) _ (by omega) (by omega) (by omega) (by omega)).mono ?_; rw [← HM.out]; rintro e w' ⟨rfl, hb⟩; obtain ⟨x, rfl⟩ := Kin.start hb; clear hb)
  exact bodyPost_ret (v := .tuple #[.agg #[.int .i64 (Rt.add an ad bn bd).1, .int .i64 (Rt.add an ad bn bd).2.1], .int .i64 (Rt.add an ad bn bd).2.2]) (by simp [results, Try.results46, go_sem, k0, k1, c0, c1]) rfl
    ⟨rfl, (((hW1.trans (x.below.mono hW1.size)).setCell (Nat.le_refl _) _).setCell (Nat.le_refl _) _)⟩

theorem radd_any (an ad bn bd : Int) (w : World) (n1 : -9223372036854775808 ≤ an) (n2 : an ≤ 9223372036854775807) (m1 : -9223372036854775808 ≤ bn) (m2 : bn ≤ 9223372036854775807) :
    Calls Try.prog 20 #[.agg #[.int .i64 an, .int .i64 ad], .agg #[.int .i64 bn, .int .i64 bd]] w fun e w' => e = ret3 (Rt.add an ad bn bd) ∧ Below w.heap.size w w' := by
  have hW1 : Below w.heap.size w (((w.alloc (.cells #[.int .i64 an, .int .i64 ad] 34)).alloc (.cells #[.int .i64 bn, .int .i64 bd] 34)).alloc (.cells #[.int .i64 0, .int .i64 0] 34)) := below_alloc (below_alloc (below_alloc (Below.refl _ _) _) _) _
  have a0 : (((w.alloc (.cells #[.int .i64 an, .int .i64 ad] 34)).alloc (.cells #[.int .i64 bn, .int .i64 bd] 34)).alloc (.cells #[.int .i64 0, .int .i64 0] 34)).cell? ⟨w.heap.size, 0, none⟩ = some (.int .i64 an) := by go_simp
  have a1 : (((w.alloc (.cells #[.int .i64 an, .int .i64 ad] 34)).alloc (.cells #[.int .i64 bn, .int .i64 bd] 34)).alloc (.cells #[.int .i64 0, .int .i64 0] 34)).cell? ⟨w.heap.size, 1, none⟩ = some (.int .i64 ad) := by go_simp
  have b0 : (((w.alloc (.cells #[.int .i64 an, .int .i64 ad] 34)).alloc (.cells #[.int .i64 bn, .int .i64 bd] 34)).alloc (.cells #[.int .i64 0, .int .i64 0] 34)).cell? ⟨w.heap.size + 1, 0, none⟩ = some (.int .i64 bn) := by go_simp
  have b1 : (((w.alloc (.cells #[.int .i64 an, .int .i64 ad] 34)).alloc (.cells #[.int .i64 bn, .int .i64 bd] 34)).alloc (.cells #[.int .i64 0, .int .i64 0] 34)).cell? ⟨w.heap.size + 1, 1, none⟩ = some (.int .i64 bd) := by go_simp
  have c0 : (((w.alloc (.cells #[.int .i64 an, .int .i64 ad] 34)).alloc (.cells #[.int .i64 bn, .int .i64 bd] 34)).alloc (.cells #[.int .i64 0, .int .i64 0] 34)).cell? ⟨w.heap.size + 1 + 1, 0, none⟩ = some (.int .i64 0) := by go_simp
  have c1 : (((w.alloc (.cells #[.int .i64 an, .int .i64 ad] 34)).alloc (.cells #[.int .i64 bn, .int .i64 bd] 34)).alloc (.cells #[.int .i64 0, .int .i64 0] 34)).cell? ⟨w.heap.size + 1 + 1, 1, none⟩ = some (.int .i64 0) := by go_simp
  have f0 : ∀ k, (((w.alloc (.cells #[.int .i64 an, .int .i64 ad] 34)).alloc (.cells #[.int .i64 bn, .int .i64 bd] 34)).alloc (.cells #[.int .i64 0, .int .i64 0] 34)).frozen? ⟨w.heap.size + 1 + 1, k, none⟩ = false := by intro k; go_simp
  by_cases h : Rt.ok an ad = true ∧ Rt.ok bn bd = true
  · obtain ⟨ha, hb⟩ := h
    have HA := Lib.hid ha
    have HB := Lib.hid hb
    clear ha hb
    go_enter Try.func20, Try.ntmps20
    go_wp2_with fail
    generalize (((w.alloc (.cells #[.int .i64 an, .int .i64 ad] 34)).alloc (.cells #[.int .i64 bn, .int .i64 bd] 34)).alloc (.cells #[.int .i64 0, .int .i64 0] 34)) = W at *
    have ka0 := fun x : Kin W => x.cell a0
    have ka1 := fun x : Kin W => x.cell a1
    have kb0 := fun x : Kin W => x.cell b0
    have kb1 := fun x : Kin W => x.cell b1
    have k0 := fun x : Kin W => x.cell c0
    have k1 := fun x : Kin W => x.cell c1
    have hlt : w.heap.size + 1 + 1 < W.heap.size := World.block_lt_of_cell? W _ c0
    have kf := fun (x : Kin W) k => (x.below.frozen (p := ⟨w.heap.size + 1 + 1, k, none⟩) hlt).trans (f0 k)
    clear f0
    refine (on_yes 46 _ an ad bn bd _ _ _ _ n1 n2 m1 m2 HA.out HB.out (enters_of Try.func46 (by kernel_rfl) rfl) (fun x => add1_any an ad bn bd _ _ x.w HA.out HB.out (x.cell a0) (x.cell a1) (x.cell b0) (x.cell b1))).mono ?_
    rintro e w' ⟨rfl, hb⟩
    obtain ⟨x, rfl⟩ := Kin.start hb
    clear hb
    go_wp2
    exact bodyPost_ret (v := .tuple #[.agg #[.int .i64 (Rt.add an ad bn bd).1, .int .i64 (Rt.add an ad bn bd).2.1], .int .i64 (Rt.add an ad bn bd).2.2]) (by simp [results, Try.results20, go_sem, k0, k1, c0, c1]) rfl
      ⟨rfl, (((hW1.trans (x.below.mono hW1.size)).setCell (by show w.heap.size ≤ w.heap.size + 1 + 1; omega) _).setCell (by show w.heap.size ≤ w.heap.size + 1 + 1; omega) _)⟩
  · have hz : Rt.add an ad bn bd = (0, 0, 1) := by unfold Rt.add; rw [if_neg h]
    have HZ := Lib.hid hz
    have h' : Rt.ok an ad = false ∨ Rt.ok bn bd = false := by
      cases ha : Rt.ok an ad
      · exact .inl rfl
      · right; rw [ha] at h; simpa using h
    have H := Lib.hid h'
    clear h h' hz
    go_enter Try.func20, Try.ntmps20
    go_wp2_with fail
    generalize (((w.alloc (.cells #[.int .i64 an, .int .i64 ad] 34)).alloc (.cells #[.int .i64 bn, .int .i64 bd] 34)).alloc (.cells #[.int .i64 0, .int .i64 0] 34)) = W at *
    have ka0 := fun x : Kin W => x.cell a0
    have ka1 := fun x : Kin W => x.cell a1
    have kb0 := fun x : Kin W => x.cell b0
    have kb1 := fun x : Kin W => x.cell b1
    have k0 := fun x : Kin W => x.cell c0
    have k1 := fun x : Kin W => x.cell c1
    have hlt : w.heap.size + 1 + 1 < W.heap.size := World.block_lt_of_cell? W _ c0
    have kf := fun (x : Kin W) k => (x.below.frozen (p := ⟨w.heap.size + 1 + 1, k, none⟩) hlt).trans (f0 k)
    clear f0
    refine (on_no 46 _ an ad bn bd _ n1 n2 m1 m2 H.out).mono ?_
    rintro e w' ⟨rfl, hb⟩
    obtain ⟨x, rfl⟩ := Kin.start hb
    clear hb
    go_wp2
    exact bodyPost_ret (v := .tuple #[.agg #[.int .i64 0, .int .i64 0], .int .i64 1]) (by simp [results, Try.results20, go_sem, k0, k1, c0, c1]) rfl
      ⟨by rw [HZ.out], (((hW1.trans (x.below.mono hW1.size)).setCell (by show w.heap.size ≤ w.heap.size + 1 + 1; omega) _).setCell (by show w.heap.size ≤ w.heap.size + 1 + 1; omega) _)⟩

theorem rsub_any (an ad bn bd : Int) (w : World) (n1 : -9223372036854775808 ≤ an) (n2 : an ≤ 9223372036854775807) (m1 : -9223372036854775808 ≤ bn) (m2 : bn ≤ 9223372036854775807) :
    Calls Try.prog 36 #[.agg #[.int .i64 an, .int .i64 ad], .agg #[.int .i64 bn, .int .i64 bd]] w fun e w' => e = ret3 (Rt.add an ad (-bn) bd) ∧ Below w.heap.size w w' := by
  have hW1 : Below w.heap.size w (((w.alloc (.cells #[.int .i64 an, .int .i64 ad] 34)).alloc (.cells #[.int .i64 bn, .int .i64 bd] 34)).alloc (.cells #[.int .i64 0, .int .i64 0] 34)) := below_alloc (below_alloc (below_alloc (Below.refl _ _) _) _) _
  have a0 : (((w.alloc (.cells #[.int .i64 an, .int .i64 ad] 34)).alloc (.cells #[.int .i64 bn, .int .i64 bd] 34)).alloc (.cells #[.int .i64 0, .int .i64 0] 34)).cell? ⟨w.heap.size, 0, none⟩ = some (.int .i64 an) := by go_simp
  have a1 : (((w.alloc (.cells #[.int .i64 an, .int .i64 ad] 34)).alloc (.cells #[.int .i64 bn, .int .i64 bd] 34)).alloc (.cells #[.int .i64 0, .int .i64 0] 34)).cell? ⟨w.heap.size, 1, none⟩ = some (.int .i64 ad) := by go_simp
  have b0 : (((w.alloc (.cells #[.int .i64 an, .int .i64 ad] 34)).alloc (.cells #[.int .i64 bn, .int .i64 bd] 34)).alloc (.cells #[.int .i64 0, .int .i64 0] 34)).cell? ⟨w.heap.size + 1, 0, none⟩ = some (.int .i64 bn) := by go_simp
  have b1 : (((w.alloc (.cells #[.int .i64 an, .int .i64 ad] 34)).alloc (.cells #[.int .i64 bn, .int .i64 bd] 34)).alloc (.cells #[.int .i64 0, .int .i64 0] 34)).cell? ⟨w.heap.size + 1, 1, none⟩ = some (.int .i64 bd) := by go_simp
  have c0 : (((w.alloc (.cells #[.int .i64 an, .int .i64 ad] 34)).alloc (.cells #[.int .i64 bn, .int .i64 bd] 34)).alloc (.cells #[.int .i64 0, .int .i64 0] 34)).cell? ⟨w.heap.size + 1 + 1, 0, none⟩ = some (.int .i64 0) := by go_simp
  have c1 : (((w.alloc (.cells #[.int .i64 an, .int .i64 ad] 34)).alloc (.cells #[.int .i64 bn, .int .i64 bd] 34)).alloc (.cells #[.int .i64 0, .int .i64 0] 34)).cell? ⟨w.heap.size + 1 + 1, 1, none⟩ = some (.int .i64 0) := by go_simp
  have f0 : ∀ k, (((w.alloc (.cells #[.int .i64 an, .int .i64 ad] 34)).alloc (.cells #[.int .i64 bn, .int .i64 bd] 34)).alloc (.cells #[.int .i64 0, .int .i64 0] 34)).frozen? ⟨w.heap.size + 1 + 1, k, none⟩ = false := by intro k; go_simp
  have hsub : ∀ (x : Int) (w : World), -9223372036854775808 ≤ x → x ≤ 9223372036854775807 → (x = -bn ∨ (x = bn ∧ bn = -9223372036854775808)) →
      Calls Try.prog 20 #[.agg #[.int .i64 an, .int .i64 ad], .agg #[.int .i64 x, .int .i64 bd]] w fun e w' => e = ret3 (Rt.add an ad (-bn) bd) ∧ Below w.heap.size w w' := by
    intro x w x1 x2 hx
    have h := radd_any an ad x bd w n1 n2 x1 x2
    rcases hx with rfl | ⟨rfl, hmin⟩
    · exact h
    · have e : Rt.add an ad x bd = Rt.add an ad (-x) bd := by
        have o1 : Rt.ok x bd = false := by unfold Rt.ok; exact decide_eq_false (by omega)
        have o2 : Rt.ok (-x) bd = false := by unfold Rt.ok; exact decide_eq_false (by omega)
        unfold Rt.add; rw [o1, o2]; simp
      rw [e] at h; exact h
  have HS := Lib.hid hsub
  clear hsub
  by_cases hm : bn = -9223372036854775808
  · have hm1 : bn ≤ -9223372036854775808 := by omega
    have HMN := Lib.hid hm
    have hw : IntKind.i64.wrap (-bn) = bn := by rw [IntKind.wrap_i64, hm]; decide
    clear hm
    go_enter Try.func36, Try.ntmps36
    go_wp2_with fail
    generalize (((w.alloc (.cells #[.int .i64 an, .int .i64 ad] 34)).alloc (.cells #[.int .i64 bn, .int .i64 bd] 34)).alloc (.cells #[.int .i64 0, .int .i64 0] 34)) = W at *
    have ka0 := fun x : Kin W => x.cell a0
    have ka1 := fun x : Kin W => x.cell a1
    have kb0 := fun x : Kin W => x.cell b0
    have kb1 := fun x : Kin W => x.cell b1
    have k0 := fun x : Kin W => x.cell c0
    have k1 := fun x : Kin W => x.cell c1
    have hlt : w.heap.size + 1 + 1 < W.heap.size := World.block_lt_of_cell? W _ c0
    have kf := fun (x : Kin W) k => (x.below.frozen (p := ⟨w.heap.size + 1 + 1, k, none⟩) hlt).trans (f0 k)
    clear f0
    refine (HS.out bn _ m1 m2 (.inr ⟨rfl, HMN.out⟩)).mono ?_
    rintro e w' ⟨rfl, hb⟩
    obtain ⟨x, rfl⟩ := Kin.start hb
    clear hb
    go_wp2
    exact bodyPost_ret (v := .tuple #[.agg #[.int .i64 (Rt.add an ad (-bn) bd).1, .int .i64 (Rt.add an ad (-bn) bd).2.1], .int .i64 (Rt.add an ad (-bn) bd).2.2]) (by simp [results, Try.results36, go_sem, k0, k1, c0, c1]) rfl
      ⟨rfl, (((hW1.trans (x.below.mono hW1.size)).setCell (by show w.heap.size ≤ w.heap.size + 1 + 1; omega) _).setCell (by show w.heap.size ≤ w.heap.size + 1 + 1; omega) _)⟩
  · have hm1 : -9223372036854775807 ≤ bn := by omega
    clear hm
    go_enter Try.func36, Try.ntmps36
    go_wp2_with fail
    generalize (((w.alloc (.cells #[.int .i64 an, .int .i64 ad] 34)).alloc (.cells #[.int .i64 bn, .int .i64 bd] 34)).alloc (.cells #[.int .i64 0, .int .i64 0] 34)) = W at *
    have ka0 := fun x : Kin W => x.cell a0
    have ka1 := fun x : Kin W => x.cell a1
    have kb0 := fun x : Kin W => x.cell b0
    have kb1 := fun x : Kin W => x.cell b1
    have k0 := fun x : Kin W => x.cell c0
    have k1 := fun x : Kin W => x.cell c1
    have hlt : w.heap.size + 1 + 1 < W.heap.size := World.block_lt_of_cell? W _ c0
    have kf := fun (x : Kin W) k => (x.below.frozen (p := ⟨w.heap.size + 1 + 1, k, none⟩) hlt).trans (f0 k)
    clear f0
    refine (HS.out (-bn) _ (by omega) (by omega) (.inl rfl)).mono ?_
    rintro e w' ⟨rfl, hb⟩
    obtain ⟨x, rfl⟩ := Kin.start hb
    clear hb
    go_wp2
    exact bodyPost_ret (v := .tuple #[.agg #[.int .i64 (Rt.add an ad (-bn) bd).1, .int .i64 (Rt.add an ad (-bn) bd).2.1], .int .i64 (Rt.add an ad (-bn) bd).2.2]) (by simp [results, Try.results36, go_sem, k0, k1, c0, c1]) rfl
      ⟨rfl, (((hW1.trans (x.below.mono hW1.size)).setCell (by show w.heap.size ≤ w.heap.size + 1 + 1; omega) _).setCell (by show w.heap.size ≤ w.heap.size + 1 + 1; omega) _)⟩

theorem rcmp_any (an ad bn bd : Int) (w : World) (n1 : -9223372036854775808 ≤ an) (n2 : an ≤ 9223372036854775807) (m1 : -9223372036854775808 ≤ bn) (m2 : bn ≤ 9223372036854775807) :
    Calls Try.prog 24 #[.agg #[.int .i64 an, .int .i64 ad], .agg #[.int .i64 bn, .int .i64 bd]] w fun e w' => e = .returned (.int .i64 (Rt.cmp an ad bn bd)) ∧ Below w.heap.size w w' := by
  have hW1 : Below w.heap.size w ((w.alloc (.cells #[.int .i64 an, .int .i64 ad] 34)).alloc (.cells #[.int .i64 bn, .int .i64 bd] 34)) := below_alloc (below_alloc (Below.refl _ _) _) _
  have a0 : ((w.alloc (.cells #[.int .i64 an, .int .i64 ad] 34)).alloc (.cells #[.int .i64 bn, .int .i64 bd] 34)).cell? ⟨w.heap.size, 0, none⟩ = some (.int .i64 an) := by go_simp
  have a1 : ((w.alloc (.cells #[.int .i64 an, .int .i64 ad] 34)).alloc (.cells #[.int .i64 bn, .int .i64 bd] 34)).cell? ⟨w.heap.size, 1, none⟩ = some (.int .i64 ad) := by go_simp
  have b0 : ((w.alloc (.cells #[.int .i64 an, .int .i64 ad] 34)).alloc (.cells #[.int .i64 bn, .int .i64 bd] 34)).cell? ⟨w.heap.size + 1, 0, none⟩ = some (.int .i64 bn) := by go_simp
  have b1 : ((w.alloc (.cells #[.int .i64 an, .int .i64 ad] 34)).alloc (.cells #[.int .i64 bn, .int .i64 bd] 34)).cell? ⟨w.heap.size + 1, 1, none⟩ = some (.int .i64 bd) := by go_simp
  cases ha : Rt.ok an ad
  · have hz : Rt.cmp an ad bn bd = 0 := by unfold Rt.cmp; rw [ha]; simp
    have HZ := Lib.hid hz
    have HA := Lib.hid ha
    clear ha hz
    go_enter Try.func24, Try.ntmps24
    go_wp2_with fail
    generalize ((w.alloc (.cells #[.int .i64 an, .int .i64 ad] 34)).alloc (.cells #[.int .i64 bn, .int .i64 bd] 34)) = W at *
    have ka0 := fun x : Kin W => x.cell a0
    have ka1 := fun x : Kin W => x.cell a1
    have kb0 := fun x : Kin W => x.cell b0
    have kb1 := fun x : Kin W => x.cell b1
    go_wp2_with (go_at_call 43; (with_reducible refine (rvalid_is _ _ _ _ (by assumption) (by omega) (by omega)).mono ?_); rintro e w' ⟨rfl, hb⟩; obtain ⟨x, rfl⟩ := Kin.more (W := W) (by repeat (first | exact Below.refl _ _ | exact Kin.below _ | refine below_alloc ?_ _)) hb; clear hb)
    go_ret
    exact ⟨ret_int HZ.out.symm, hW1.trans (Below.mono (Kin.below _) hW1.size)⟩
  cases hb : Rt.ok bn bd
  · have hz : Rt.cmp an ad bn bd = 0 := by unfold Rt.cmp; rw [hb]; simp
    have HZ := Lib.hid hz
    have HA := Lib.hid ha
    have HB := Lib.hid hb
    clear ha hb hz
    go_enter Try.func24, Try.ntmps24
    go_wp2_with fail
    generalize ((w.alloc (.cells #[.int .i64 an, .int .i64 ad] 34)).alloc (.cells #[.int .i64 bn, .int .i64 bd] 34)) = W at *
    have ka0 := fun x : Kin W => x.cell a0
    have ka1 := fun x : Kin W => x.cell a1
    have kb0 := fun x : Kin W => x.cell b0
    have kb1 := fun x : Kin W => x.cell b1
    go_wp2_with (go_at_call 43; (with_reducible refine (rvalid_is _ _ _ _ (by assumption) (by omega) (by omega)).mono ?_); rintro e w' ⟨rfl, hb⟩; obtain ⟨x, rfl⟩ := Kin.more (W := W) (by repeat (first | exact Below.refl _ _ | exact Kin.below _ | refine below_alloc ?_ _)) hb; clear hb)
    go_ret
    exact ⟨ret_int HZ.out.symm, hW1.trans (Below.mono (Kin.below _) hW1.size)⟩
  obtain ⟨p1, p2, p3, _⟩ := Rt.ok_iff.1 ha
  obtain ⟨q1, q2, q3, _⟩ := Rt.ok_iff.1 hb
  obtain ⟨s1, s2⟩ := Rt.mul_bd an bd p3 q1 q2 rfl rfl
  obtain ⟨s3, s4⟩ := Rt.mul_bd bn ad q3 p1 p2 rfl rfl
  have hlt1 := Lib.hid (Rt.lt_iff ha hb)
  have hlt2 := Lib.hid (Rt.lt_iff hb ha)
  have hz : Rt.cmp an ad bn bd = if an * bd - bn * ad < 0 then -1 else if bn * ad - an * bd < 0 then 1 else 0 := by
    unfold Rt.cmp; rw [if_pos ⟨ha, hb⟩]
    simp only [hlt1.out, hlt2.out]
  have HZ := Lib.hid hz
  have HA := Lib.hid ha
  have HB := Lib.hid hb
  clear ha hb hz
  go_enter Try.func24, Try.ntmps24
  go_wp2_with fail
  generalize ((w.alloc (.cells #[.int .i64 an, .int .i64 ad] 34)).alloc (.cells #[.int .i64 bn, .int .i64 bd] 34)) = W at *
  have ka0 := fun x : Kin W => x.cell a0
  have ka1 := fun x : Kin W => x.cell a1
  have kb0 := fun x : Kin W => x.cell b0
  have kb1 := fun x : Kin W => x.cell b1
  go_wp2_with (go_at_call 43; (with_reducible refine (rvalid_is _ _ _ _ (by assumption) (by omega) (by omega)).mono ?_); rintro e w' ⟨rfl, hb⟩; obtain ⟨x, rfl⟩ := Kin.more (W := W) (by repeat (first | exact Below.refl _ _ | exact Kin.below _ | refine below_alloc ?_ _)) hb; clear hb)
  all_goals
    go_ret
    refine ⟨ret_int ?_, hW1.trans (Below.mono (Kin.below _) hW1.size)⟩
    rw [HZ.out]
    first
      | rw [if_pos (by omega)]
      | rw [if_neg (by omega), if_pos (by omega)]
      | rw [if_neg (by omega), if_neg (by omega)]
end Go.Proofs.Ytgggekjhfdkgkaa
