/- The walks of date.nth, Next, Add, Count, Business. -/
import Derived.Test.YthnjbcdfcpchnaaDoorDateA
namespace Go.Proofs.YthnjbcdfcpchnaaDoor
open Go.RowKit Go.Shelf

/-- What nth returns. -/
noncomputable def nthV (wk : Nat → Bool) (hs : List Int) (n : Int) : Int := if Biz.nth wk hs n ≤ 73048 then Biz.nth wk hs n else 0
noncomputable def nthE (wk : Nat → Bool) (hs : List Int) (n : Int) : Int := if Biz.nth wk hs n ≤ 73048 then 0 else 2

theorem nth_any (wk : Nat → Bool) (A : Option Addr) (hs : List Int) (c : Nat) (n : Int) (w : World) (hv : Biz.incr (-1) hs = true) (hl : hs.length ≤ 400) (hh : Ints w A hs) :
    Calls Tryd.prog 26 #[.agg (cal wk A hs.length c), .int .i64 n] w fun e w' => e = ret2 (nthV wk hs n) (nthE wk hs n) ∧ Below w.heap.size w w' := by
  have hb1 : Below w.heap.size w ((w.alloc (.cells (cal wk A hs.length c) 39)).alloc (.cells #[.int .i64 n] 3)) := ((Below.refl _ _).alloc (Nat.le_refl _) _).alloc (by simp) _
  have cn : ((w.alloc (.cells (cal wk A hs.length c) 39)).alloc (.cells #[.int .i64 n] 3)).cell? ⟨w.heap.size + 1, 0, none⟩ = some (.int .i64 n) := by go_simp
  have cc : ∀ (j : Nat) (v : Value), (cal wk A hs.length c)[j]? = some v → ((w.alloc (.cells (cal wk A hs.length c) 39)).alloc (.cells #[.int .i64 n] 3)).cell? ⟨w.heap.size, j, none⟩ = some v := by
    intro j v hj
    go_simp
  have HB := Lib.hid hb1
  have HN := Lib.hid cn
  have HC := Lib.hid cc
  have HH := Lib.hid hh
  have HV := Lib.hid hv
  clear hb1 cn cc hh hv
  go_enter Tryd.func26, Tryd.ntmps26
  go_wp2_with fail
  refine (search_any 30 #[.pointer (some ⟨w.heap.size, 0, none⟩), .pointer (some ⟨w.heap.size + 1, 0, none⟩)] 73049 (Biz.past wk hs n) _
    (enters_of Tryd.func30 (by kernel_rfl) rfl) (by omega) ?_ (Biz.past_mono HV.out n)).mono ?_
  · intro x i hi
    exact nth1_any wk A hs c n _ _ i x.w HV.out hl hi ((HH.out.keep HB.out).keep (x.below.mono (Nat.le_refl _))) (x.cell HN.out) (fun j v hj => x.cell (HC.out j v hj))
  · rintro e w' ⟨r, rfl, h1, h2, h3, hb⟩
    have hr : Biz.nth wk hs n = r := by unfold Biz.nth; rw [Biz.firstAt_eq h1 h2 h3]
    have HR := Lib.hid hr
    have hbb := HB.out.trans (hb.mono HB.out.size)
    clear h2 h3 hr hb
    by_cases c1 : r ≤ 73048
    · go_wp2
      go_ret2
      exact ⟨ret2_eq (by unfold nthV; rw [HR.out, if_pos (by omega)]) (by unfold nthE; rw [HR.out, if_pos (by omega)]), hbb⟩
    · obtain rfl : r = 73049 := by omega
      go_wp2
      go_ret2
      exact ⟨ret2_eq (by unfold nthV; rw [HR.out, if_neg (by omega)]) (by unfold nthE; rw [HR.out, if_neg (by omega)]), hbb⟩

/-- The cells of a calendar in its box, in every world that follows. -/
theorem cal_cells (wk : Nat → Bool) (A : Option Addr) (n c : Nat) (w : World) (T : TypeId) (x : Kin (w.alloc (.cells (cal wk A n c) T))) :
    x.w.cell? ⟨w.heap.size, 0, none⟩ = some (.bool (wk 0)) ∧ x.w.cell? ⟨w.heap.size, 1, none⟩ = some (.bool (wk 1)) ∧ x.w.cell? ⟨w.heap.size, 2, none⟩ = some (.bool (wk 2)) ∧
    x.w.cell? ⟨w.heap.size, 3, none⟩ = some (.bool (wk 3)) ∧ x.w.cell? ⟨w.heap.size, 4, none⟩ = some (.bool (wk 4)) ∧ x.w.cell? ⟨w.heap.size, 5, none⟩ = some (.bool (wk 5)) ∧
    x.w.cell? ⟨w.heap.size, 6, none⟩ = some (.bool (wk 6)) ∧ x.w.cell? ⟨w.heap.size, 7, none⟩ = some (.slice A n c) :=
  ⟨x.cell (by go_simp), x.cell (by go_simp), x.cell (by go_simp), x.cell (by go_simp), x.cell (by go_simp), x.cell (by go_simp), x.cell (by go_simp), x.cell (by go_simp)⟩

theorem next_arg (wk : Nat → Bool) (A : Option Addr) (hs : List Int) (c : Nat) (d : Int) (w : World) (hv : Biz.valid wk hs = false ∨ d < 0 ∨ 73048 < d) (hl : hs.length ≤ 9223372036854775807) (hh : Ints w A hs) :
    Calls Tryd.prog 14 #[.agg (cal wk A hs.length c), .int .i64 d] w fun e w' => e = ret2 0 1 ∧ Below w.heap.size w w' := by
  have hb1 : Below w.heap.size w (w.alloc (.cells (cal wk A hs.length c) 39)) := (Below.refl _ _).alloc (Nat.le_refl _) _
  have H2 := Lib.hid (hh.keep hb1)
  clear hh
  cases hw : Biz.valid wk hs
  · have HW := Lib.hid hw
    clear hw hv
    go_enter Tryd.func14, Tryd.ntmps14
    go_wp2_with (go_at_call 20; refine (valid_any wk A hs c _ hl H2.out).mono ?_; rw [HW.out]; rintro e w' ⟨rfl, hb⟩)
    go_ret2
    exact ⟨rfl, hb1.trans (hb.mono hb1.size)⟩
  · have hd : decide (0 ≤ d ∧ d ≤ 73048) = false := by rw [hw] at hv; simp at hv ⊢; omega
    have HW := Lib.hid hw
    clear hw hv
    go_enter Tryd.func14, Tryd.ntmps14
    go_wp2_with (first
      | (go_at_call 20; refine (valid_any wk A hs c _ hl H2.out).mono ?_; rw [HW.out]; rintro e w' ⟨rfl, hb⟩)
      | (go_at_call 23; refine (is_any _ _).mono ?_; rintro e w' ⟨rfl, rfl⟩))
    go_ret2
    exact ⟨rfl, hb1.trans (hb.mono hb1.size)⟩

theorem next_any (wk : Nat → Bool) (A : Option Addr) (hs : List Int) (c : Nat) (d : Int) (w : World) (hv : Biz.valid wk hs = true) (h0 : 0 ≤ d) (h1 : d ≤ 73048) (hh : Ints w A hs) :
    Calls Tryd.prog 14 #[.agg (cal wk A hs.length c), .int .i64 d] w fun e w' => e = ret2 (nthV wk hs (Biz.A wk hs d)) (nthE wk hs (Biz.A wk hs d)) ∧ Below w.heap.size w w' := by
  obtain ⟨hi, hl⟩ := Biz.valid_parts hv
  have hb1 : Below w.heap.size w (w.alloc (.cells (cal wk A hs.length c) 39)) := (Below.refl _ _).alloc (Nat.le_refl _) _
  have H2 := Lib.hid (hh.keep hb1)
  have HC := Lib.hid (cal_cells wk A hs.length c w 39)
  have HV := Lib.hid hv
  have HI := Lib.hid hi
  have hd : decide (0 ≤ d ∧ d ≤ 73048) = true := by simp [*]
  clear hh hv hi
  go_enter Tryd.func14, Tryd.ntmps14
  go_wp2_with (first
    | (go_at_call 20; refine (valid_any wk A hs c _ (by omega) H2.out).mono ?_; rw [HV.out]; rintro e w' ⟨rfl, hb⟩; obtain ⟨x, rfl⟩ := Kin.start hb; clear hb)
    | (go_at_call 23; refine (is_any _ _).mono ?_; rintro e w' ⟨rfl, rfl⟩))
  obtain ⟨k0, HC⟩ := forall_and.1 HC.out
  obtain ⟨k1, HC⟩ := forall_and.1 HC
  obtain ⟨k2, HC⟩ := forall_and.1 HC
  obtain ⟨k3, HC⟩ := forall_and.1 HC
  obtain ⟨k4, HC⟩ := forall_and.1 HC
  obtain ⟨k5, HC⟩ := forall_and.1 HC
  obtain ⟨k6, k7⟩ := forall_and.1 HC
  clear HC
  refine wp_region_kin (by kernel_rfl) (by kernel_rfl) x.below ?_
  repeat (go_big_quiet_step ((first
    | (go_at_call 27; exact kin_call (ahead_any wk A hs c _ _ HI.out hl (by omega) (by omega) (H2.out.keep (Kin.below _))))
    | (go_at_call 26; exact kin_call (nth_any wk A hs c _ _ HI.out hl (H2.out.keep (Kin.below _)))))))
  refine wpQuiet_nil ?_
  intro _ hw'
  obtain ⟨x2, hw''⟩ := hw'
  subst hw''
  go_wp2
  go_ret2
  exact ⟨rfl, hb1.trans (x2.below.mono hb1.size)⟩

/-- What Next returns: a day and an error. -/
noncomputable def nextV (wk : Nat → Bool) (hs : List Int) (d : Int) : Int := if Biz.valid wk hs = true ∧ 0 ≤ d ∧ d ≤ 73048 then nthV wk hs (Biz.A wk hs d) else 0
noncomputable def nextE (wk : Nat → Bool) (hs : List Int) (d : Int) : Int := if Biz.valid wk hs = true ∧ 0 ≤ d ∧ d ≤ 73048 then nthE wk hs (Biz.A wk hs d) else 1
theorem next_all (wk : Nat → Bool) (A : Option Addr) (hs : List Int) (c : Nat) (d : Int) (w : World) (hl : hs.length ≤ 9223372036854775807) (hh : Ints w A hs) :
    Calls Tryd.prog 14 #[.agg (cal wk A hs.length c), .int .i64 d] w fun e w' => e = ret2 (nextV wk hs d) (nextE wk hs d) ∧ Below w.heap.size w w' := by
  by_cases h : Biz.valid wk hs = true ∧ 0 ≤ d ∧ d ≤ 73048
  · unfold nextV nextE; rw [if_pos h, if_pos h]; exact next_any wk A hs c d w h.1 h.2.1 h.2.2 hh
  · unfold nextV nextE; rw [if_neg h, if_neg h]
    refine next_arg wk A hs c d w ?_ hl hh
    cases hv : Biz.valid wk hs
    · exact .inl rfl
    · right; have : ¬ (0 ≤ d ∧ d ≤ 73048) := fun k => h ⟨hv, k⟩; omega

/-- What Add returns. -/
noncomputable def addV (wk : Nat → Bool) (hs : List Int) (d n : Int) : Int := if n = 0 then nextV wk hs d else if Biz.valid wk hs = true ∧ 0 ≤ d ∧ d ≤ 73048 ∧ 0 ≤ n ∧ n ≤ 73048 then nthV wk hs (Biz.A wk hs (d + 1) + n - 1) else 0
noncomputable def addE (wk : Nat → Bool) (hs : List Int) (d n : Int) : Int := if n = 0 then nextE wk hs d else if Biz.valid wk hs = true ∧ 0 ≤ d ∧ d ≤ 73048 ∧ 0 ≤ n then (if n ≤ 73048 then nthE wk hs (Biz.A wk hs (d + 1) + n - 1) else 2) else 1

theorem add_arg (wk : Nat → Bool) (A : Option Addr) (hs : List Int) (c : Nat) (d n : Int) (w : World) (hv : Biz.valid wk hs = false ∨ d < 0 ∨ 73048 < d ∨ n < 0) (hl : hs.length ≤ 9223372036854775807) (hh : Ints w A hs) :
    Calls Tryd.prog 17 #[.agg (cal wk A hs.length c), .int .i64 d, .int .i64 n] w fun e w' => e = ret2 0 1 ∧ Below w.heap.size w w' := by
  have hb1 : Below w.heap.size w (w.alloc (.cells (cal wk A hs.length c) 39)) := (Below.refl _ _).alloc (Nat.le_refl _) _
  have H2 := Lib.hid (hh.keep hb1)
  clear hh
  cases hw : Biz.valid wk hs
  · have HV := Lib.hid hw
    clear hw hv
    go_enter Tryd.func17, Tryd.ntmps17
    go_wp2_with (go_at_call 20; refine (valid_any wk A hs c _ hl H2.out).mono ?_; rw [HV.out]; rintro e w' ⟨rfl, hb⟩; obtain ⟨x, rfl⟩ := Kin.start hb; clear hb)
    all_goals
      go_ret2
      exact ⟨rfl, hb1.trans (x.below.mono hb1.size)⟩
  · have HV := Lib.hid hw
    by_cases hd : 0 ≤ d ∧ d ≤ 73048
    · have hn : n < 0 := by rw [hw] at hv; simp at hv; omega
      have hd : decide (0 ≤ d ∧ d ≤ 73048) = true := by simp; omega
      clear hw hv
      go_enter Tryd.func17, Tryd.ntmps17
      go_wp2_with (first
        | (go_at_call 20; refine (valid_any wk A hs c _ hl H2.out).mono ?_; rw [HV.out]; rintro e w' ⟨rfl, hb⟩; obtain ⟨x, rfl⟩ := Kin.start hb; clear hb)
        | (go_at_call 23; refine (is_any _ _).mono ?_; rintro e w' ⟨rfl, rfl⟩))
      all_goals
        go_ret2
        exact ⟨rfl, hb1.trans (x.below.mono hb1.size)⟩
    · have hd : decide (0 ≤ d ∧ d ≤ 73048) = false := by simp; omega
      clear hw hv
      go_enter Tryd.func17, Tryd.ntmps17
      go_wp2_with (first
        | (go_at_call 20; refine (valid_any wk A hs c _ hl H2.out).mono ?_; rw [HV.out]; rintro e w' ⟨rfl, hb⟩; obtain ⟨x, rfl⟩ := Kin.start hb; clear hb)
        | (go_at_call 23; refine (is_any _ _).mono ?_; rintro e w' ⟨rfl, rfl⟩))
      all_goals
        go_ret2
        exact ⟨rfl, hb1.trans (x.below.mono hb1.size)⟩

theorem add_zero (wk : Nat → Bool) (A : Option Addr) (hs : List Int) (c : Nat) (d : Int) (w : World) (hv : Biz.valid wk hs = true) (h0 : 0 ≤ d) (h1 : d ≤ 73048) (hh : Ints w A hs) :
    Calls Tryd.prog 17 #[.agg (cal wk A hs.length c), .int .i64 d, .int .i64 0] w fun e w' => e = ret2 (nextV wk hs d) (nextE wk hs d) ∧ Below w.heap.size w w' := by
  obtain ⟨hi, hl⟩ := Biz.valid_parts hv
  have hb1 : Below w.heap.size w (w.alloc (.cells (cal wk A hs.length c) 39)) := (Below.refl _ _).alloc (Nat.le_refl _) _
  have H2 := Lib.hid (hh.keep hb1)
  have HC := Lib.hid (cal_cells wk A hs.length c w 39)
  have HV := Lib.hid hv
  have HI := Lib.hid hi
  have hd : decide (0 ≤ d ∧ d ≤ 73048) = true := by simp [*]
  clear hh hv hi
  obtain ⟨k0, HC⟩ := forall_and.1 HC.out
  obtain ⟨k1, HC⟩ := forall_and.1 HC
  obtain ⟨k2, HC⟩ := forall_and.1 HC
  obtain ⟨k3, HC⟩ := forall_and.1 HC
  obtain ⟨k4, HC⟩ := forall_and.1 HC
  obtain ⟨k5, HC⟩ := forall_and.1 HC
  obtain ⟨k6, k7⟩ := forall_and.1 HC
  clear HC
  go_enter Tryd.func17, Tryd.ntmps17
  go_wp2_with (first
    | (go_at_call 20; refine (valid_any wk A hs c _ (by omega) H2.out).mono ?_; rw [HV.out]; rintro e w' ⟨rfl, hb⟩; obtain ⟨x, rfl⟩ := Kin.start hb; clear hb)
    | (go_at_call 23; refine (is_any _ _).mono ?_; rintro e w' ⟨rfl, rfl⟩)
    | (go_at_call 14; refine (next_all wk A hs c _ _ (by omega) (H2.out.keep (Kin.below _))).mono ?_; rintro e w' ⟨rfl, hb⟩; obtain ⟨y, rfl⟩ := Kin.step _ hb; clear hb))
  go_ret2
  exact ⟨rfl, hb1.trans (Below.mono (Kin.below _) hb1.size)⟩

theorem add_far (wk : Nat → Bool) (A : Option Addr) (hs : List Int) (c : Nat) (d n : Int) (w : World) (hv : Biz.valid wk hs = true) (h0 : 0 ≤ d) (h1 : d ≤ 73048) (hn : 73048 < n) (hh : Ints w A hs) :
    Calls Tryd.prog 17 #[.agg (cal wk A hs.length c), .int .i64 d, .int .i64 n] w fun e w' => e = ret2 0 2 ∧ Below w.heap.size w w' := by
  obtain ⟨hi, hl⟩ := Biz.valid_parts hv
  have hb1 : Below w.heap.size w (w.alloc (.cells (cal wk A hs.length c) 39)) := (Below.refl _ _).alloc (Nat.le_refl _) _
  have H2 := Lib.hid (hh.keep hb1)
  have HC := Lib.hid (cal_cells wk A hs.length c w 39)
  have HV := Lib.hid hv
  have HI := Lib.hid hi
  have hd : decide (0 ≤ d ∧ d ≤ 73048) = true := by simp [*]
  clear hh hv hi
  go_enter Tryd.func17, Tryd.ntmps17
  go_wp2_with (first
    | (go_at_call 20; refine (valid_any wk A hs c _ (by omega) H2.out).mono ?_; rw [HV.out]; rintro e w' ⟨rfl, hb⟩; obtain ⟨x, rfl⟩ := Kin.start hb; clear hb)
    | (go_at_call 23; refine (is_any _ _).mono ?_; rintro e w' ⟨rfl, rfl⟩))
  go_ret2
  exact ⟨rfl, hb1.trans (Below.mono (Kin.below _) hb1.size)⟩

theorem add_some (wk : Nat → Bool) (A : Option Addr) (hs : List Int) (c : Nat) (d n : Int) (w : World) (hv : Biz.valid wk hs = true) (h0 : 0 ≤ d) (h1 : d ≤ 73048) (hn0 : 0 < n) (hn : n ≤ 73048) (hh : Ints w A hs) :
    Calls Tryd.prog 17 #[.agg (cal wk A hs.length c), .int .i64 d, .int .i64 n] w fun e w' => e = ret2 (nthV wk hs (Biz.A wk hs (d + 1) + n - 1)) (nthE wk hs (Biz.A wk hs (d + 1) + n - 1)) ∧ Below w.heap.size w w' := by
  obtain ⟨hi, hl⟩ := Biz.valid_parts hv
  have hb1 : Below w.heap.size w (w.alloc (.cells (cal wk A hs.length c) 39)) := (Below.refl _ _).alloc (Nat.le_refl _) _
  have H2 := Lib.hid (hh.keep hb1)
  have HC := Lib.hid (cal_cells wk A hs.length c w 39)
  have HV := Lib.hid hv
  have HI := Lib.hid hi
  have hd : decide (0 ≤ d ∧ d ≤ 73048) = true := by simp [*]
  have ba := Biz.A_bd (wk := wk) hi (a := d + 1) (by omega)
  obtain ⟨ba, bb⟩ := ba
  clear hh hv hi
  obtain ⟨k0, HC⟩ := forall_and.1 HC.out
  obtain ⟨k1, HC⟩ := forall_and.1 HC
  obtain ⟨k2, HC⟩ := forall_and.1 HC
  obtain ⟨k3, HC⟩ := forall_and.1 HC
  obtain ⟨k4, HC⟩ := forall_and.1 HC
  obtain ⟨k5, HC⟩ := forall_and.1 HC
  obtain ⟨k6, k7⟩ := forall_and.1 HC
  clear HC
  go_enter Tryd.func17, Tryd.ntmps17
  go_wp2_with (first
    | (go_at_call 20; refine (valid_any wk A hs c _ (by omega) H2.out).mono ?_; rw [HV.out]; rintro e w' ⟨rfl, hb⟩; obtain ⟨x, rfl⟩ := Kin.start hb; clear hb)
    | (go_at_call 23; refine (is_any _ _).mono ?_; rintro e w' ⟨rfl, rfl⟩))
  refine wp_region_kin (by kernel_rfl) (by kernel_rfl) x.below ?_
  repeat (go_big_quiet_step ((first
    | (go_at_call 27; exact kin_call (ahead_any wk A hs c _ _ HI.out hl (by omega) (by omega) (H2.out.keep (Kin.below _))))
    | (go_at_call 26; exact kin_call (nth_any wk A hs c _ _ HI.out hl (H2.out.keep (Kin.below _)))))))
  refine wpQuiet_nil ?_
  intro _ hw'
  obtain ⟨x2, hw''⟩ := hw'
  subst hw''
  go_wp2
  go_ret2
  exact ⟨rfl, hb1.trans (x2.below.mono hb1.size)⟩

theorem add_all (wk : Nat → Bool) (A : Option Addr) (hs : List Int) (c : Nat) (d n : Int) (w : World) (hl : hs.length ≤ 9223372036854775807) (hh : Ints w A hs) :
    Calls Tryd.prog 17 #[.agg (cal wk A hs.length c), .int .i64 d, .int .i64 n] w fun e w' => e = ret2 (addV wk hs d n) (addE wk hs d n) ∧ Below w.heap.size w w' := by
  by_cases h : Biz.valid wk hs = true ∧ 0 ≤ d ∧ d ≤ 73048 ∧ 0 ≤ n
  · by_cases hz : n = 0
    · subst hz; unfold addV addE; rw [if_pos rfl, if_pos rfl]; exact add_zero wk A hs c d w h.1 h.2.1 h.2.2.1 hh
    · by_cases hn : n ≤ 73048
      · unfold addV addE; rw [if_neg hz, if_neg hz, if_pos ⟨h.1, h.2.1, h.2.2.1, h.2.2.2, hn⟩, if_pos h, if_pos hn]; exact add_some wk A hs c d n w h.1 h.2.1 h.2.2.1 (by omega) hn hh
      · unfold addV addE; rw [if_neg hz, if_neg hz, if_neg (fun k => hn k.2.2.2.2), if_pos h, if_neg hn]; exact add_far wk A hs c d n w h.1 h.2.1 h.2.2.1 (by omega) hh
  · have hc : addV wk hs d n = 0 ∧ addE wk hs d n = 1 := by
      unfold addV addE
      by_cases hz : n = 0
      · subst hz
        have h2 : ¬ (Biz.valid wk hs = true ∧ 0 ≤ d ∧ d ≤ 73048) := fun k => h ⟨k.1, k.2.1, k.2.2, by omega⟩
        rw [if_pos rfl, if_pos rfl]; unfold nextV nextE; rw [if_neg h2, if_neg h2]; exact ⟨rfl, rfl⟩
      · rw [if_neg hz, if_neg hz, if_neg (fun k => h ⟨k.1, k.2.1, k.2.2.1, k.2.2.2.1⟩), if_neg h]; exact ⟨rfl, rfl⟩
    rw [hc.1, hc.2]
    refine add_arg wk A hs c d n w ?_ hl hh
    cases hv : Biz.valid wk hs
    · exact .inl rfl
    · right; have : ¬ (0 ≤ d ∧ d ≤ 73048 ∧ 0 ≤ n) := fun k => h ⟨hv, k⟩; omega
end Go.Proofs.YthnjbcdfcpchnaaDoor
