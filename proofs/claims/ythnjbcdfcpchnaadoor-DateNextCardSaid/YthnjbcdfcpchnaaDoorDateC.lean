/- The walks of date.Civil and date.Months. -/
import Derived.Test.YthnjbcdfcpchnaaDoorDateW
namespace Go.Proofs.YthnjbcdfcpchnaaDoor
open Go.RowKit Go.Shelf

/-- A date and a number. -/
abbrev retC (y m d e : Int) : Ending := .returned (.tuple #[.agg #[.int .i64 y, .int .i64 m, .int .i64 d], .int .i64 e])

theorem civil_no (n : Int) (w : World) (h : n < 0 ∨ 73048 < n) :
    Calls Tryd.prog 11 #[.int .i64 n] w fun e w' => e = retC 0 0 0 1 ∧ Below w.heap.size w w' := by
  have hd : decide (0 ≤ n ∧ n ≤ 73048) = false := by simp; omega
  clear h
  go_enter Tryd.func11, Tryd.ntmps11
  go_wp2_with (go_at_call 23; refine (is_any _ _).mono ?_; rintro e w' ⟨rfl, rfl⟩)
  exact bodyPost_ret (v := .tuple #[.agg #[.int .i64 0, .int .i64 0, .int .i64 0], .int .i64 1]) (by simp [results, Tryd.results11, go_sem]) rfl ⟨rfl, (Below.refl _ _).alloc (Nat.le_refl _) _⟩

theorem civil_is (n : Int) (w : World) (h1 : 0 ≤ n) (h2 : n ≤ 73048) (ht : Table w) (hz : 0 < w.heap.size) :
    Calls Tryd.prog 11 #[.int .i64 n] w fun e w' => ∃ y m d, e = retC y m d 0 ∧ Cal.okB y m d = true ∧ Cal.num y m d = n ∧ Below w.heap.size w w' := by
  have hd : decide (0 ≤ n ∧ n ≤ 73048) = true := by simp [*]
  have hs : Cal.start (1990 + n / 366) ≤ n := by unfold Cal.start Cal.lps; omega
  have HS := Lib.hid hs
  have HT := Lib.hid ht
  clear hs ht
  go_enter Tryd.func11, Tryd.ntmps11
  go_wp2_with (go_at_call 23; refine (is_any _ _).mono ?_; rintro e w' ⟨rfl, rfl⟩)
  go_loopg [] 300 (fun k wr => ∃ y : Int, 1990 ≤ y ∧ y ≤ 2189 ∧ Cal.start y ≤ n ∧ 2189 - y ≤ k ∧ wr = (w.alloc (.cells #[.int .i64 0, .int .i64 0, .int .i64 0] 23)).alloc (.cells #[.int .i64 y] 3))
  case atStart => exact ⟨_, by omega, by omega, HS.out, by omega, rfl⟩
  case round =>
    obtain ⟨y, hy1, hy2, hy3, hk, rfl⟩ := hrel
    by_cases hc : Cal.start (y + 1) ≤ n
    · have hy4 : y + 1 ≤ 2189 := by
        rcases Int.lt_or_le 2189 (y + 1) with h | h
        · have e : y + 1 = 2190 := by omega
          rw [e] at hc; have := Cal.start_last; omega
        · exact h
      go_wp2_with (go_at_call 22; refine (start_any _ _ (by omega) (by omega)).mono ?_; rintro e w' ⟨rfl, rfl⟩)
      go_roundg (gk - 1)
      case measure => omega
      case rel => exact ⟨y + 1, by omega, by omega, hc, by omega, rfl⟩
    · have hss := Cal.start_succ y
      have hlp := Cal.lp_01 y
      have hr1' : n - Cal.start y < 365 + Cal.lp y := by omega
      obtain ⟨l1, l2⟩ := hlp
      go_wp2_with (go_at_call 22; refine (start_any _ _ (by omega) (by omega)).mono ?_; rintro e w' ⟨rfl, rfl⟩)
      have ht1 : Table (((w.alloc (.cells #[.int .i64 0, .int .i64 0, .int .i64 0] 23)).alloc (.cells #[.int .i64 y] 3)).alloc (.cells #[.int .i64 (n - Cal.start y)] 3)) := fun k hk => by
        rw [((((Below.refl w.heap.size w).alloc (Nat.le_refl _) _).alloc (by simp) _).alloc (by simp; omega) _).cell (by simpa using hz)]; exact HT.out k hk
      have hWb : Below w.heap.size w (((w.alloc (.cells #[.int .i64 0, .int .i64 0, .int .i64 0] 23)).alloc (.cells #[.int .i64 y] 3)).alloc (.cells #[.int .i64 (n - Cal.start y)] 3)) := ((((Below.refl w.heap.size w).alloc (Nat.le_refl _) _).alloc (by simp) _).alloc (by simp; omega) _)
      have c0 : (((w.alloc (.cells #[.int .i64 0, .int .i64 0, .int .i64 0] 23)).alloc (.cells #[.int .i64 y] 3)).alloc (.cells #[.int .i64 (n - Cal.start y)] 3)).cell? ⟨w.heap.size, 0, none⟩ = some (.int .i64 0) := by go_simp
      have c1 : (((w.alloc (.cells #[.int .i64 0, .int .i64 0, .int .i64 0] 23)).alloc (.cells #[.int .i64 y] 3)).alloc (.cells #[.int .i64 (n - Cal.start y)] 3)).cell? ⟨w.heap.size, 1, none⟩ = some (.int .i64 0) := by go_simp
      have c2 : (((w.alloc (.cells #[.int .i64 0, .int .i64 0, .int .i64 0] 23)).alloc (.cells #[.int .i64 y] 3)).alloc (.cells #[.int .i64 (n - Cal.start y)] 3)).cell? ⟨w.heap.size, 2, none⟩ = some (.int .i64 0) := by go_simp
      have cy : (((w.alloc (.cells #[.int .i64 0, .int .i64 0, .int .i64 0] 23)).alloc (.cells #[.int .i64 y] 3)).alloc (.cells #[.int .i64 (n - Cal.start y)] 3)).cell? ⟨w.heap.size + 1, 0, none⟩ = some (.int .i64 y) := by go_simp
      have cr : (((w.alloc (.cells #[.int .i64 0, .int .i64 0, .int .i64 0] 23)).alloc (.cells #[.int .i64 y] 3)).alloc (.cells #[.int .i64 (n - Cal.start y)] 3)).cell? ⟨w.heap.size + 1 + 1, 0, none⟩ = some (.int .i64 (n - Cal.start y)) := by go_simp
      have f0 : ∀ k, (((w.alloc (.cells #[.int .i64 0, .int .i64 0, .int .i64 0] 23)).alloc (.cells #[.int .i64 y] 3)).alloc (.cells #[.int .i64 (n - Cal.start y)] 3)).frozen? ⟨w.heap.size, k, none⟩ = false := by intro k; go_simp
      generalize (((w.alloc (.cells #[.int .i64 0, .int .i64 0, .int .i64 0] 23)).alloc (.cells #[.int .i64 y] 3)).alloc (.cells #[.int .i64 (n - Cal.start y)] 3)) = W at *
      refine (search_any 25 #[.pointer (some ⟨w.heap.size + 1, 0, none⟩), .pointer (some ⟨w.heap.size + 1 + 1, 0, none⟩)] 12 (fun i => decide (n - Cal.start y < Cal.days y (i + 1))) W
        (enters_of Tryd.func25 (by kernel_rfl) rfl) (by omega) ?_ ?_).mono ?_
      · intro x i hi
        exact civil1_any y (n - Cal.start y) _ _ i x.w (by omega) (by omega) hi (fun k hk => x.cell (ht1 k hk)) (x.cell cy) (x.cell cr)
      · intro a b hab hb ha
        have := of_decide_eq_true ha
        have := Cal.days_mono y (a + 1) (b + 1) (by omega) (by omega) (by omega)
        exact decide_eq_true (by omega)
      · rintro e w' ⟨r, rfl, hr, hr1, hr2, hb⟩
        obtain ⟨hm1, hm2, hm3⟩ := Cal.month_of hy1 hy2 hy3 hr1' hr hr1 hr2
        clear hr1 hr2
        obtain ⟨x, rfl⟩ := Kin.start hb
        clear hb
        have k0 := fun x : Kin W => x.cell c0
        have k1 := fun x : Kin W => x.cell c1
        have k2 := fun x : Kin W => x.cell c2
        have ky := fun x : Kin W => x.cell cy
        have kr := fun x : Kin W => x.cell cr
        have kf0 := fun x : Kin W => (x.frozen c0).trans (f0 0)
        have kf1 := fun x : Kin W => (x.frozen c1).trans (f0 1)
        have kf2 := fun x : Kin W => (x.frozen c2).trans (f0 2)
        have HT1 := Lib.hid ht1
        have HM3 := Lib.hid hm3
        have HM2 := Lib.hid hm2
        have db := Cal.days_bd y r (by omega) (by omega)
        obtain ⟨db1, db2⟩ := db
        have hWs := hWb.size
        clear c0 c1 c2 cy cr f0 ht1 hm3 hm2
        go_wp2_with fail
        refine wp_region_kin_tail 10 (by kernel_rfl) (by kernel_rfl) x.below ?_
        simp only [List.take_succ_cons, List.take_zero, List.drop_succ_cons, List.drop_zero]
        repeat (go_big_quiet_step ((go_at_call 21; exact kin_same (days_any _ _ _ (by omega) (by omega) (by omega) (by omega) (fun k hk => Kin.cell (HT1.out k hk) _)))))
        refine wpQuiet_nil ?_
        intro _ hw'
        obtain ⟨x2, hw''⟩ := hw'
        subst hw''
        go_wp2
        refine bodyPost_ret (v := .tuple #[.agg #[.int .i64 y, .int .i64 (r + 1), .int .i64 (n - Cal.start y - Cal.days y r + 1)], .int .i64 0])
          (by simp [results, Tryd.results11, go_sem, k0, k1, k2]) rfl ⟨y, r + 1, _, rfl, HM2.out, HM3.out, ?_⟩
        exact (((hWb.trans (x2.below.mono hWs)).setCell (Nat.le_refl _) _).setCell (Nat.le_refl _) _).setCell (Nat.le_refl _) _

/-- date.Civil at the number of a date. -/
theorem civil_at (y m d n : Int) (w : World) (hv : Cal.okB y m d = true) (hn : Cal.num y m d = n) (ht : Table w) (hz : 0 < w.heap.size) :
    Calls Tryd.prog 11 #[.int .i64 n] w fun e w' => e = retC y m d 0 ∧ Below w.heap.size w w' := by
  subst hn
  obtain ⟨b1, b2⟩ := Cal.num_bd hv
  refine (civil_is _ w b1 b2 ht hz).mono ?_
  rintro e w' ⟨y', m', d', rfl, hv', hn', hb⟩
  obtain ⟨rfl, rfl, rfl⟩ := Cal.num_inj hv' hv hn'
  exact ⟨rfl, hb⟩

theorem months_arg (n k : Int) (w : World) (h : n < 0 ∨ 73048 < n ∨ k < -2400 ∨ 2400 < k) (ht : Table w) (hz : 0 < w.heap.size) :
    Calls Tryd.prog 13 #[.int .i64 n, .int .i64 k] w fun e w' => e = ret2 0 1 ∧ Below w.heap.size w w' := by
  have HT := Lib.hid ht
  clear ht
  by_cases c : n < 0 ∨ 73048 < n
  · clear h
    go_enter Tryd.func13, Tryd.ntmps13
    go_wp2_with (go_at_call 11; refine (civil_no _ _ c).mono ?_; rintro e w' ⟨rfl, hb⟩; obtain ⟨x, rfl⟩ := Kin.start hb; clear hb)
    all_goals
      go_ret2
      exact ⟨rfl, x.below.alloc x.below.size _⟩
  · have h1 : 0 ≤ n := by omega
    have h2 : n ≤ 73048 := by omega
    have h3 : k < -2400 ∨ 2400 < k := by omega
    clear h c
    rcases h3 with h3 | h3
    all_goals
      go_enter Tryd.func13, Tryd.ntmps13
      go_wp2_with (go_at_call 11; refine (civil_is _ _ h1 h2 HT.out hz).mono ?_; rintro e w' ⟨y, m, d, rfl, hv, hn, hb⟩; obtain ⟨x, rfl⟩ := Kin.start hb; clear hb hn hv)
      all_goals
        go_ret2
        exact ⟨rfl, x.below.alloc x.below.size _⟩

theorem months_range (y m d n k : Int) (w : World) (hv : Cal.okB y m d = true) (hn : Cal.num y m d = n) (k1 : -2400 ≤ k) (k2 : k ≤ 2400)
    (hr : y * 12 + m - 1 + k < 23880 ∨ 26280 ≤ y * 12 + m - 1 + k) (ht : Table w) (hz : 0 < w.heap.size) :
    Calls Tryd.prog 13 #[.int .i64 n, .int .i64 k] w fun e w' => e = ret2 0 2 ∧ Below w.heap.size w w' := by
  have HT := Lib.hid ht
  have HV := Lib.hid hv
  have HN := Lib.hid hn
  obtain ⟨c1, c2, c3, c4, c5, c6⟩ := Cal.ok_iff.1 hv
  clear ht hv hn c6
  rcases hr with hr | hr
  all_goals
    go_enter Tryd.func13, Tryd.ntmps13
    go_wp2_with (go_at_call 11; refine (civil_at _ _ _ _ _ HV.out HN.out HT.out hz).mono ?_; rintro e w' ⟨rfl, hb⟩; obtain ⟨x, rfl⟩ := Kin.start hb; clear hb)
    all_goals
      go_ret2
      exact ⟨rfl, x.below.alloc x.below.size _⟩

theorem months_ok (y m d n k : Int) (w : World) (hv : Cal.okB y m d = true) (hn : Cal.num y m d = n) (k1 : -2400 ≤ k) (k2 : k ≤ 2400)
    (r1 : 23880 ≤ y * 12 + m - 1 + k) (r2 : y * 12 + m - 1 + k < 26280) (ht : Table w) (hz : 0 < w.heap.size) :
    Calls Tryd.prog 13 #[.int .i64 n, .int .i64 k] w fun e w' => e = ret2 (Cal.months y m d k) 0 ∧ Below w.heap.size w w' := by
  have HT := Lib.hid ht
  have HV := Lib.hid hv
  have HN := Lib.hid hn
  obtain ⟨c1, c2, c3, c4, c5, c6⟩ := Cal.ok_iff.1 hv
  have a1 := Cal.start_bd ((y * 12 + m - 1 + k) / 12) (by omega) (by omega)
  have a2 := Cal.days_bd ((y * 12 + m - 1 + k) / 12) ((y * 12 + m - 1 + k) % 12) (by omega) (by omega)
  have a3 := Cal.days_bd ((y * 12 + m - 1 + k) / 12) ((y * 12 + m - 1 + k) % 12 + 1) (by omega) (by omega)
  have a4 : d ≤ 31 := by have := Cal.days_step y m c3 c4; omega
  obtain ⟨a1, b1⟩ := a1
  obtain ⟨a2, b2⟩ := a2
  obtain ⟨a3, b3⟩ := a3
  clear ht hv hn c6
  go_enter Tryd.func13, Tryd.ntmps13
  go_wp2_with (first
    | (go_at_call 11; refine (civil_at _ _ _ _ _ HV.out HN.out HT.out hz).mono ?_; rintro e w' ⟨rfl, hb⟩; obtain ⟨x, rfl⟩ := Kin.start hb; clear hb)
    | (go_at_call 21; refine (days_any _ _ _ (by omega) (by omega) (by omega) (by omega) (fun j hj => Kin.allocCell (HT.out j hj) _ _)).mono ?_; rintro e w' ⟨rfl, rfl⟩))
  have hb2 : Below w.heap.size w (x.w.alloc (.cells #[.int .i64 y, .int .i64 m, .int .i64 d] 23)) := x.below.alloc x.below.size _
  have cd : (x.w.alloc (.cells #[.int .i64 y, .int .i64 m, .int .i64 d] 23)).cell? ⟨x.w.heap.size, 2, none⟩ = some (.int .i64 d) := by go_simp
  have ht2 : Table (x.w.alloc (.cells #[.int .i64 y, .int .i64 m, .int .i64 d] 23)) := fun j hj => Kin.allocCell (HT.out j hj) _ _
  generalize x.w.alloc (.cells #[.int .i64 y, .int .i64 m, .int .i64 d] 23) = W at *
  have HT2 := Lib.hid ht2
  have kd := fun x : Kin W => x.cell cd
  have hW := hb2.size
  clear cd ht2
  refine wp_region_kin (by kernel_rfl) (by kernel_rfl) (Below.refl _ W) ?_
  repeat (go_big_quiet_step ((first
    | (go_at_call 21; exact kin_same (days_any _ _ _ (by omega) (by omega) (by omega) (by omega) (fun j hj => Kin.cell (HT2.out j hj) _)))
    | (go_at_call 22; exact kin_same (start_any _ _ (by omega) (by omega))))))
  refine wpQuiet_nil ?_
  intro _ hw'
  obtain ⟨x2, hw''⟩ := hw'
  subst hw''
  go_wp2
  all_goals
    go_ret2
    exact ⟨ret2_eq (by unfold Cal.months; omega) rfl, hb2.trans (x2.below.mono hW)⟩
end Go.Proofs.YthnjbcdfcpchnaaDoor
