/- The walks of date.Count and date.Business. -/
import Derived.Test.YthnjbcdfcpchnaaDoorDateN
namespace Go.Proofs.YthnjbcdfcpchnaaDoor
open Go.RowKit Go.Shelf

theorem valid_is (wk : Nat → Bool) (A : Option Addr) (hs : List Int) (c : Nat) (b : Bool) (w : World) (hb : Biz.valid wk hs = b) (hl : hs.length ≤ 9223372036854775807) (hh : Ints w A hs) :
    Calls Tryd.prog 20 #[.agg (cal wk A hs.length c)] w fun e w' => e = .returned (.bool b) ∧ Below w.heap.size w w' := by
  subst hb; exact valid_any wk A hs c w hl hh
theorem is_is (d : Int) (b : Bool) (w : World) (hb : decide (0 ≤ d ∧ d ≤ 73048) = b) :
    Calls Tryd.prog 23 #[.int .i64 d] w fun e w' => e = .returned (.bool b) ∧ w = w' := by
  subst hb; exact is_any d w

/-- What Count returns. -/
def cntV (wk : Nat → Bool) (hs : List Int) (a b : Int) : Int := if Biz.valid wk hs = true ∧ 0 ≤ a ∧ a ≤ b ∧ b ≤ 73048 then Biz.A wk hs b - Biz.A wk hs a else 0
def cntE (wk : Nat → Bool) (hs : List Int) (a b : Int) : Int := if Biz.valid wk hs = true ∧ 0 ≤ a ∧ a ≤ b ∧ b ≤ 73048 then 0 else 1

/-- The results, case by case. -/
theorem nth_is {wk : Nat → Bool} {hs : List Int} {n r : Int} (h : Biz.nth wk hs n = r) (hr : r ≤ 73048) : nthV wk hs n = r ∧ nthE wk hs n = 0 := by
  unfold nthV nthE; rw [h, if_pos hr, if_pos hr]; exact ⟨rfl, rfl⟩
theorem nth_isnt {wk : Nat → Bool} {hs : List Int} {n : Int} (h : Biz.nth wk hs n = 73049) : nthV wk hs n = 0 ∧ nthE wk hs n = 2 := by
  unfold nthV nthE; rw [h, if_neg (by decide), if_neg (by decide)]; exact ⟨rfl, rfl⟩
theorem next_is {wk : Nat → Bool} {hs : List Int} {d : Int} (h : Biz.valid wk hs = true) (h0 : 0 ≤ d) (h1 : d ≤ 73048) : nextV wk hs d = nthV wk hs (Biz.A wk hs d) ∧ nextE wk hs d = nthE wk hs (Biz.A wk hs d) := by
  unfold nextV nextE; rw [if_pos ⟨h, h0, h1⟩, if_pos ⟨h, h0, h1⟩]; exact ⟨rfl, rfl⟩
theorem next_isnt {wk : Nat → Bool} {hs : List Int} {d : Int} (h : ¬ (Biz.valid wk hs = true ∧ 0 ≤ d ∧ d ≤ 73048)) : nextV wk hs d = 0 ∧ nextE wk hs d = 1 := by
  unfold nextV nextE; rw [if_neg h, if_neg h]; exact ⟨rfl, rfl⟩
theorem add_is {wk : Nat → Bool} {hs : List Int} {d n : Int} (h : Biz.valid wk hs = true) (h0 : 0 ≤ d) (h1 : d ≤ 73048) (h2 : 0 < n) (h3 : n ≤ 73048) :
    addV wk hs d n = nthV wk hs (Biz.A wk hs (d + 1) + n - 1) ∧ addE wk hs d n = nthE wk hs (Biz.A wk hs (d + 1) + n - 1) := by
  have hz : ¬ n = 0 := by omega
  have k1 : Biz.valid wk hs = true ∧ 0 ≤ d ∧ d ≤ 73048 ∧ 0 ≤ n ∧ n ≤ 73048 := ⟨h, h0, h1, by omega, h3⟩
  have k2 : Biz.valid wk hs = true ∧ 0 ≤ d ∧ d ≤ 73048 ∧ 0 ≤ n := ⟨h, h0, h1, by omega⟩
  unfold addV addE
  rw [if_neg hz, if_neg hz, if_pos k1, if_pos k2, if_pos h3]; exact ⟨rfl, rfl⟩
theorem add_is0 {wk : Nat → Bool} {hs : List Int} {d : Int} : addV wk hs d 0 = nextV wk hs d ∧ addE wk hs d 0 = nextE wk hs d := by
  unfold addV addE; rw [if_pos rfl, if_pos rfl]; exact ⟨rfl, rfl⟩
theorem add_isfar {wk : Nat → Bool} {hs : List Int} {d n : Int} (h : Biz.valid wk hs = true) (h0 : 0 ≤ d) (h1 : d ≤ 73048) (h3 : 73048 < n) : addV wk hs d n = 0 ∧ addE wk hs d n = 2 := by
  have hz : ¬ n = 0 := by omega
  have k1 : ¬ (Biz.valid wk hs = true ∧ 0 ≤ d ∧ d ≤ 73048 ∧ 0 ≤ n ∧ n ≤ 73048) := fun k => by have := k.2.2.2.2; omega
  have k2 : Biz.valid wk hs = true ∧ 0 ≤ d ∧ d ≤ 73048 ∧ 0 ≤ n := ⟨h, h0, h1, by omega⟩
  have k3 : ¬ n ≤ 73048 := by omega
  unfold addV addE
  rw [if_neg hz, if_neg hz, if_neg k1, if_pos k2, if_neg k3]; exact ⟨rfl, rfl⟩
theorem add_isnt {wk : Nat → Bool} {hs : List Int} {d n : Int} (h : ¬ (Biz.valid wk hs = true ∧ 0 ≤ d ∧ d ≤ 73048 ∧ 0 ≤ n)) : addV wk hs d n = 0 ∧ addE wk hs d n = 1 := by
  by_cases hz : n = 0
  · subst hz; rw [add_is0.1, add_is0.2]; exact next_isnt (fun k => h ⟨k.1, k.2.1, k.2.2, by omega⟩)
  · unfold addV addE
    rw [if_neg hz, if_neg hz, if_neg (fun k => h ⟨k.1, k.2.1, k.2.2.1, k.2.2.2.1⟩), if_neg h]; exact ⟨rfl, rfl⟩
theorem cnt_is {wk : Nat → Bool} {hs : List Int} {a b : Int} (h : Biz.valid wk hs = true) (h0 : 0 ≤ a) (h1 : a ≤ b) (h2 : b ≤ 73048) : cntV wk hs a b = Biz.A wk hs b - Biz.A wk hs a ∧ cntE wk hs a b = 0 := by
  unfold cntV cntE; rw [if_pos ⟨h, h0, h1, h2⟩, if_pos ⟨h, h0, h1, h2⟩]; exact ⟨rfl, rfl⟩
theorem cnt_isnt {wk : Nat → Bool} {hs : List Int} {a b : Int} (h : ¬ (Biz.valid wk hs = true ∧ 0 ≤ a ∧ a ≤ b ∧ b ≤ 73048)) : cntV wk hs a b = 0 ∧ cntE wk hs a b = 1 := by
  unfold cntV cntE; rw [if_neg h, if_neg h]; exact ⟨rfl, rfl⟩

theorem count_ok (wk : Nat → Bool) (A : Option Addr) (hs : List Int) (c : Nat) (a b : Int) (w : World) (hv : Biz.valid wk hs = true) (h0 : 0 ≤ a) (h1 : a ≤ b) (h2 : b ≤ 73048) (hh : Ints w A hs) :
    Calls Tryd.prog 18 #[.agg (cal wk A hs.length c), .int .i64 a, .int .i64 b] w fun e w' => e = ret2 (Biz.A wk hs b - Biz.A wk hs a) 0 ∧ Below w.heap.size w w' := by
  obtain ⟨hi, hl⟩ := Biz.valid_parts hv
  have hb1 : Below w.heap.size w (w.alloc (.cells (cal wk A hs.length c) 39)) := (Below.refl _ _).alloc (Nat.le_refl _) _
  have H2 := Lib.hid (hh.keep hb1)
  have HC := Lib.hid (cal_cells wk A hs.length c w 39)
  have HV := Lib.hid hv
  have HI := Lib.hid hi
  have hda : decide (0 ≤ a ∧ a ≤ 73048) = true := by simp; omega
  have hdb : decide (0 ≤ b ∧ b ≤ 73048) = true := by simp; omega
  obtain ⟨b1, b2⟩ := Biz.A_bd (wk := wk) hi (a := a) h0
  obtain ⟨b3, b4⟩ := Biz.A_bd (wk := wk) hi (a := b) (by omega)
  clear hh hv hi
  obtain ⟨k0, HC⟩ := forall_and.1 HC.out
  obtain ⟨k1, HC⟩ := forall_and.1 HC
  obtain ⟨k2, HC⟩ := forall_and.1 HC
  obtain ⟨k3, HC⟩ := forall_and.1 HC
  obtain ⟨k4, HC⟩ := forall_and.1 HC
  obtain ⟨k5, HC⟩ := forall_and.1 HC
  obtain ⟨k6, k7⟩ := forall_and.1 HC
  clear HC
  go_enter Tryd.func18, Tryd.ntmps18
  go_wp2_with (first
    | (go_at_call 20; refine (valid_any wk A hs c _ (by omega) H2.out).mono ?_; rw [HV.out]; rintro e w' ⟨rfl, hb⟩; obtain ⟨x, rfl⟩ := Kin.start hb; clear hb)
    | (go_at_call 23; refine (is_any _ _).mono ?_; rintro e w' ⟨rfl, rfl⟩))
  refine wp_region_kin (by kernel_rfl) (by kernel_rfl) x.below ?_
  repeat (go_big_quiet_step ((first
    | (go_at_call 20; exact kin_call (valid_is wk A hs c _ _ HV.out (by omega) (H2.out.keep (Kin.below _))))
    | fail
    | (go_at_call 27; exact kin_call (ahead_any wk A hs c _ _ HI.out hl (by omega) (by omega) (H2.out.keep (Kin.below _)))))))
  refine wpQuiet_nil ?_
  intro _ hw'
  obtain ⟨x2, hw''⟩ := hw'
  subst hw''
  go_wp2
  go_ret2
  exact ⟨rfl, hb1.trans (x2.below.mono hb1.size)⟩

theorem count_arg (wk : Nat → Bool) (A : Option Addr) (hs : List Int) (c : Nat) (a b : Int) (w : World) (hv : ¬ (Biz.valid wk hs = true ∧ 0 ≤ a ∧ a ≤ b ∧ b ≤ 73048)) (hl : hs.length ≤ 9223372036854775807) (hh : Ints w A hs) :
    Calls Tryd.prog 18 #[.agg (cal wk A hs.length c), .int .i64 a, .int .i64 b] w fun e w' => e = ret2 0 1 ∧ Below w.heap.size w w' := by
  have hb1 : Below w.heap.size w (w.alloc (.cells (cal wk A hs.length c) 39)) := (Below.refl _ _).alloc (Nat.le_refl _) _
  have H2 := Lib.hid (hh.keep hb1)
  clear hh
  cases hw : Biz.valid wk hs
  · have HV := Lib.hid hw
    clear hw hv
    go_enter Tryd.func18, Tryd.ntmps18
    go_wp2_with (go_at_call 20; refine (valid_any wk A hs c _ hl H2.out).mono ?_; rw [HV.out]; rintro e w' ⟨rfl, hb⟩; obtain ⟨x, rfl⟩ := Kin.start hb; clear hb)
    all_goals
      go_ret2
      exact ⟨rfl, hb1.trans (x.below.mono hb1.size)⟩
  · have HV := Lib.hid hw
    have hn : ¬ (0 ≤ a ∧ a ≤ b ∧ b ≤ 73048) := fun k => hv ⟨hw, k⟩
    clear hw hv
    by_cases ha : 0 ≤ a ∧ a ≤ 73048
    · by_cases hb : 0 ≤ b ∧ b ≤ 73048
      · have hgt : b < a := by omega
        have ha : decide (0 ≤ a ∧ a ≤ 73048) = true := by simp; omega
        have hb : decide (0 ≤ b ∧ b ≤ 73048) = true := by simp; omega
        go_enter Tryd.func18, Tryd.ntmps18
        go_wp2_with (first
          | (go_at_call 20; refine (valid_any wk A hs c _ hl H2.out).mono ?_; rw [HV.out]; rintro e w' ⟨rfl, hb⟩; obtain ⟨x, rfl⟩ := Kin.start hb; clear hb)
          | (go_at_call 23; refine (is_any _ _).mono ?_; rintro e w' ⟨rfl, rfl⟩))
        all_goals
          go_ret2
          exact ⟨rfl, hb1.trans (x.below.mono hb1.size)⟩
      · have ha : decide (0 ≤ a ∧ a ≤ 73048) = true := by simp; omega
        have hb : decide (0 ≤ b ∧ b ≤ 73048) = false := by simp; omega
        go_enter Tryd.func18, Tryd.ntmps18
        go_wp2_with (first
          | (go_at_call 20; refine (valid_any wk A hs c _ hl H2.out).mono ?_; rw [HV.out]; rintro e w' ⟨rfl, hb⟩; obtain ⟨x, rfl⟩ := Kin.start hb; clear hb)
          | (go_at_call 23; refine (is_any _ _).mono ?_; rintro e w' ⟨rfl, rfl⟩))
        all_goals
          go_ret2
          exact ⟨rfl, hb1.trans (x.below.mono hb1.size)⟩
    · have ha : decide (0 ≤ a ∧ a ≤ 73048) = false := by simp; omega
      go_enter Tryd.func18, Tryd.ntmps18
      go_wp2_with (first
        | (go_at_call 20; refine (valid_any wk A hs c _ hl H2.out).mono ?_; rw [HV.out]; rintro e w' ⟨rfl, hb⟩; obtain ⟨x, rfl⟩ := Kin.start hb; clear hb)
        | (go_at_call 23; refine (is_any _ _).mono ?_; rintro e w' ⟨rfl, rfl⟩))
      all_goals
        go_ret2
        exact ⟨rfl, hb1.trans (x.below.mono hb1.size)⟩

theorem count_all (wk : Nat → Bool) (A : Option Addr) (hs : List Int) (c : Nat) (a b : Int) (w : World) (hl : hs.length ≤ 9223372036854775807) (hh : Ints w A hs) :
    Calls Tryd.prog 18 #[.agg (cal wk A hs.length c), .int .i64 a, .int .i64 b] w fun e w' => e = ret2 (cntV wk hs a b) (cntE wk hs a b) ∧ Below w.heap.size w w' := by
  by_cases h : Biz.valid wk hs = true ∧ 0 ≤ a ∧ a ≤ b ∧ b ≤ 73048
  · unfold cntV cntE; rw [if_pos h, if_pos h]; exact count_ok wk A hs c a b w h.1 h.2.1 h.2.2.1 h.2.2.2 hh
  · unfold cntV cntE; rw [if_neg h, if_neg h]; exact count_arg wk A hs c a b w h hl hh

/-- What Business returns. -/
def bizF (wk : Nat → Bool) (hs : List Int) (d : Int) : Bool := Biz.valid wk hs && decide (0 ≤ d ∧ d ≤ 73048) && Biz.biz wk hs d

theorem business_all (wk : Nat → Bool) (A : Option Addr) (hs : List Int) (c : Nat) (d : Int) (w : World) (hl : hs.length ≤ 9223372036854775807) (hh : Ints w A hs) :
    Calls Tryd.prog 16 #[.agg (cal wk A hs.length c), .int .i64 d] w fun e w' => e = .returned (.bool (bizF wk hs d)) ∧ Below w.heap.size w w' := by
  have hb1 : Below w.heap.size w (w.alloc (.cells (cal wk A hs.length c) 39)) := (Below.refl _ _).alloc (Nat.le_refl _) _
  have H2 := Lib.hid (hh.keep hb1)
  have HC := Lib.hid (cal_cells wk A hs.length c w 39)
  clear hh
  obtain ⟨k0, HC⟩ := forall_and.1 HC.out
  obtain ⟨k1, HC⟩ := forall_and.1 HC
  obtain ⟨k2, HC⟩ := forall_and.1 HC
  obtain ⟨k3, HC⟩ := forall_and.1 HC
  obtain ⟨k4, HC⟩ := forall_and.1 HC
  obtain ⟨k5, HC⟩ := forall_and.1 HC
  obtain ⟨k6, k7⟩ := forall_and.1 HC
  clear HC
  cases hw : Biz.valid wk hs
  · have hr : bizF wk hs d = false := by unfold bizF; rw [hw]; rfl
    have HV := Lib.hid hw
    have HR := Lib.hid hr
    clear hw hr
    go_enter Tryd.func16, Tryd.ntmps16
    go_wp2_with fail
    refine wp_region_kin (by kernel_rfl) (by kernel_rfl) (Below.refl _ _) ?_
    repeat (go_big_quiet_step ((first
      | (go_at_call 20; exact kin_call (valid_is wk A hs c _ _ HV.out hl (H2.out.keep (Kin.below _))))
      | fail
      | (go_at_call 27; exact kin_call (ahead_any wk A hs c _ _ HI.out hl2 (by omega) (by omega) (H2.out.keep (Kin.below _)))))))
    refine wpQuiet_nil ?_
    intro _ hw'
    obtain ⟨x2, hw''⟩ := hw'
    subst hw''
    go_wp2
    go_ret
    exact ⟨ret_bool HR.out.symm, hb1.trans (x2.below.mono hb1.size)⟩
  · obtain ⟨hi, hl2⟩ := Biz.valid_parts hw
    have HV := Lib.hid hw
    have HI := Lib.hid hi
    cases hd : decide (0 ≤ d ∧ d ≤ 73048)
    · have hr : bizF wk hs d = false := by unfold bizF; rw [hw, hd]; rfl
      have HR := Lib.hid hr
      clear hw hr hi
      go_enter Tryd.func16, Tryd.ntmps16
      go_wp2_with fail
      refine wp_region_kin (by kernel_rfl) (by kernel_rfl) (Below.refl _ _) ?_
      repeat (go_big_quiet_step ((first
        | (go_at_call 20; exact kin_call (valid_is wk A hs c _ _ HV.out hl (H2.out.keep (Kin.below _))))
        | (go_at_call 23; exact kin_same (is_is _ _ _ hd))
        | (go_at_call 27; exact kin_call (ahead_any wk A hs c _ _ HI.out hl2 (by omega) (by omega) (H2.out.keep (Kin.below _)))))))
      refine wpQuiet_nil ?_
      intro _ hw'
      obtain ⟨x2, hw''⟩ := hw'
      subst hw''
      go_wp2
      go_ret
      exact ⟨ret_bool HR.out.symm, hb1.trans (x2.below.mono hb1.size)⟩
    · have hd2 := of_decide_eq_true hd
      obtain ⟨d1, d2⟩ := hd2
      have hst := Biz.A_step (wk := wk) hi d d1
      have hr : bizF wk hs d = decide (Biz.A wk hs d < Biz.A wk hs (d + 1)) := by
        unfold bizF; rw [hw, hd, hst]
        cases hb : Biz.biz wk hs d <;> simp <;> omega
      have HR := Lib.hid hr
      clear hw hr hi hst
      go_enter Tryd.func16, Tryd.ntmps16
      go_wp2_with fail
      refine wp_region_kin (by kernel_rfl) (by kernel_rfl) (Below.refl _ _) ?_
      repeat (go_big_quiet_step ((first
        | (go_at_call 20; exact kin_call (valid_is wk A hs c _ _ HV.out hl (H2.out.keep (Kin.below _))))
        | (go_at_call 23; exact kin_same (is_is _ _ _ hd))
        | (go_at_call 27; exact kin_call (ahead_any wk A hs c _ _ HI.out hl2 (by omega) (by omega) (H2.out.keep (Kin.below _)))))))
      refine wpQuiet_nil ?_
      intro _ hw'
      obtain ⟨x2, hw''⟩ := hw'
      subst hw''
      go_wp2
      go_ret
      exact ⟨ret_bool HR.out.symm, hb1.trans (x2.below.mono hb1.size)⟩

theorem few_any (wk : Nat → Bool) (A : Option Addr) (hs : List Int) (c : Nat) (w : World) :
    Calls Tryd.prog 15 #[.agg (cal wk A hs.length c)] w fun e w' => e = .returned (.bool (decide (hs.length ≤ 500))) ∧ Below w.heap.size w w' := by
  have hd : decide ((hs.length : Int) ≤ 500) = decide (hs.length ≤ 500) := decide_eq_decide.2 (by omega)
  have HD := Lib.hid hd
  clear hd
  go_enter Tryd.func15, Tryd.ntmps15
  go_wp2
  go_ret
  exact ⟨ret_bool (by first | rw [HD.out] | rfl), (Below.refl _ _).alloc (Nat.le_refl _) _⟩
end Go.Proofs.YthnjbcdfcpchnaaDoor
