/- The walks of date's functions on day numbers and dates. -/
import Derived.Test.YthnjbcdfcpchnaaDoorKin
import Derived.Test.YthnjbcdfcpchnaaDoorDateM
namespace Go.Proofs.YthnjbcdfcpchnaaDoor
open Go.RowKit Go.Shelf

/-- The table of the days before the months. -/
def Table (w : World) : Prop := ∀ m : Nat, m ≤ 12 → w.cell? ⟨0, m, none⟩ = some (.int .i64 (Cal.cum m))

theorem Table.keep {w w' : World} (h : Table w) (hb : Below w.heap.size w w') : Table w' := fun m hm =>
  (hb.cell (World.block_lt_of_cell? w _ (h m hm))).trans (h m hm)
theorem Table.pos {w : World} (h : Table w) : 0 < w.heap.size := Nat.lt_of_le_of_lt (Nat.zero_le _) (World.block_lt_of_cell? w _ (h 0 (by omega)))

theorem leap_any (y : Int) (w : World) (h1 : 0 ≤ y) (h2 : y ≤ 1000000) :
    Calls Tryd.prog 28 #[.int .i64 y] w fun e w' => e = .returned (.bool (Cal.leapB y)) ∧ w = w' := by
  go_enter Tryd.func28, Tryd.ntmps28
  go_wp2
  all_goals
    go_ret
    exact ⟨ret_bool (by simp [Cal.leapB, *]), rfl⟩

theorem leaps_any (y : Int) (w : World) (h1 : 0 ≤ y) (h2 : y ≤ 1000000) :
    Calls Tryd.prog 29 #[.int .i64 y] w fun e w' => e = .returned (.int .i64 (y/4 - y/100 + y/400)) ∧ w = w' := by
  go_enter Tryd.func29, Tryd.ntmps29
  go_wp2
  go_ret
  exact ⟨rfl, rfl⟩

theorem start_any (y : Int) (w : World) (h1 : 1 ≤ y) (h2 : y ≤ 1000000) :
    Calls Tryd.prog 22 #[.int .i64 y] w fun e w' => e = .returned (.int .i64 (Cal.start y)) ∧ w = w' := by
  go_enter Tryd.func22, Tryd.ntmps22
  go_wp2_with (go_at_call 29; refine (leaps_any _ _ (by omega) (by omega)).mono ?_; rintro e w' ⟨rfl, rfl⟩)
  go_ret
  exact ⟨ret_int (by unfold Cal.start Cal.lps; omega), rfl⟩

theorem days_any (y m : Int) (w : World) (h1 : 0 ≤ y) (h2 : y ≤ 1000000) (h3 : 0 ≤ m) (h4 : m ≤ 12) (ht : Table w) :
    Calls Tryd.prog 21 #[.int .i64 y, .int .i64 m] w fun e w' => e = .returned (.int .i64 (Cal.days y m)) ∧ w = w' := by
  have hc := ht m.toNat (by omega)
  have hcb : 0 ≤ Cal.cum m ∧ Cal.cum m ≤ 365 := by unfold Cal.cum; split <;> omega
  obtain ⟨b1, b2⟩ := hcb
  rw [show ((m.toNat : Nat) : Int) = m by omega] at hc
  clear ht
  go_enter Tryd.func21, Tryd.ntmps21
  go_wp2_with (go_at_call 28; refine (leap_any _ _ (by omega) (by omega)).mono ?_; rintro e w' ⟨rfl, rfl⟩)
  all_goals
    go_ret
    refine ⟨ret_int ?_, rfl⟩
    unfold Cal.days Cal.lp
    first
      | rw [if_pos ‹2 ≤ m›, if_pos ‹Cal.leapB y = true›]
      | (rw [if_pos ‹2 ≤ m›, if_neg (by simp [*])]; omega)
      | (rw [if_neg (by omega)]; omega)

theorem is_any (d : Int) (w : World) :
    Calls Tryd.prog 23 #[.int .i64 d] w fun e w' => e = .returned (.bool (decide (0 ≤ d ∧ d ≤ 73048))) ∧ w = w' := by
  go_enter Tryd.func23, Tryd.ntmps23
  go_wp2
  all_goals
    go_ret
    refine ⟨ret_bool ?_, rfl⟩
    first | (simp [*]; done) | (simp [*]; omega)

theorem number_no (y m d : Int) (w : World) (hv : Cal.okB y m d = false) (ht : Table w) (hz : 0 < w.heap.size) (wd : -9223372036854775808 ≤ d) (wd2 : d ≤ 9223372036854775807) :
    Calls Tryd.prog 10 #[.agg #[.int .i64 y, .int .i64 m, .int .i64 d]] w fun e w' => e = ret2 0 1 ∧ Below w.heap.size w w' := by
  have hn : ¬ (1990 ≤ y ∧ y ≤ 2189 ∧ 1 ≤ m ∧ m ≤ 12 ∧ 1 ≤ d ∧ d ≤ Cal.days y m - Cal.days y (m - 1)) := fun h => by rw [Cal.ok_iff.2 h] at hv; cases hv
  by_cases c : y < 1990 ∨ 2189 < y ∨ m < 1 ∨ 12 < m ∨ d < 1
  · clear hn hv ht
    go_enter Tryd.func10, Tryd.ntmps10
    go_wp2
    all_goals
      go_ret2
      exact ⟨rfl, (Below.refl _ _).alloc (Nat.le_refl _) _⟩
  · have c1 : 1990 ≤ y := by omega
    have c2 : y ≤ 2189 := by omega
    have c3 : 1 ≤ m := by omega
    have c4 : m ≤ 12 := by omega
    have c5 : 1 ≤ d := by omega
    have c6 : Cal.days y m - Cal.days y (m - 1) < d := by omega
    have b1 := Cal.days_bd y m (by omega) (by omega)
    have b2 := Cal.days_bd y (m - 1) (by omega) (by omega)
    obtain ⟨b1, b3⟩ := b1
    obtain ⟨b2, b4⟩ := b2
    clear c hn hv
    have ht2 : Table (w.alloc (.cells #[.int .i64 y, .int .i64 m, .int .i64 d] 23)) := fun k hk => by
      rw [((Below.refl w.heap.size w).alloc (Nat.le_refl _) _).cell (by simpa using hz)]; exact ht k hk
    have HT := Lib.hid ht2
    clear ht ht2
    go_enter Tryd.func10, Tryd.ntmps10
    go_wp2_with (go_at_call 21; refine (days_any _ _ _ (by omega) (by omega) (by omega) (by omega) HT.out).mono ?_; rintro e w' ⟨rfl, rfl⟩)
    go_quiet ((go_at_call 21; exact quiet_left (days_any _ _ _ (by omega) (by omega) (by omega) (by omega) HT.out)))
    go_wp2
    all_goals
      go_ret2
      exact ⟨rfl, (below_drewN ((Below.refl _ _).alloc (Nat.le_refl _) _) _)⟩

theorem number_is (y m d n : Int) (w : World) (hv : Cal.okB y m d = true) (hnum : Cal.num y m d = n) (ht : Table w) (hz : 0 < w.heap.size) :
    Calls Tryd.prog 10 #[.agg #[.int .i64 y, .int .i64 m, .int .i64 d]] w fun e w' => e = ret2 n 0 ∧ Below w.heap.size w w' := by
  have HN := Lib.hid hnum
  clear hnum
  obtain ⟨c1, c2, c3, c4, c5, c6⟩ := Cal.ok_iff.1 hv
  have b1 := Cal.days_bd y m (by omega) (by omega)
  have b2 := Cal.days_bd y (m - 1) (by omega) (by omega)
  have b5 := Cal.start_bd y (by omega) (by omega)
  obtain ⟨b1, b3⟩ := b1
  obtain ⟨b2, b4⟩ := b2
  obtain ⟨b5, b6⟩ := b5
  clear hv
  have ht2 : Table (w.alloc (.cells #[.int .i64 y, .int .i64 m, .int .i64 d] 23)) := fun k hk => by
    rw [((Below.refl w.heap.size w).alloc (Nat.le_refl _) _).cell (by simpa using hz)]; exact ht k hk
  have HT := Lib.hid ht2
  clear ht ht2
  go_enter Tryd.func10, Tryd.ntmps10
  go_wp2_with (go_at_call 21; refine (days_any _ _ _ (by omega) (by omega) (by omega) (by omega) HT.out).mono ?_; rintro e w' ⟨rfl, rfl⟩)
  go_quiet ((go_at_call 21; exact quiet_left (days_any _ _ _ (by omega) (by omega) (by omega) (by omega) HT.out)))
  go_wp2
  go_quiet ((go_at_call 22; exact quiet_add_left (start_any _ _ (by omega) (by omega))))
  go_wp2
  go_ret2
  exact ⟨ret2_eq (by rw [← HN.out]; unfold Cal.num; omega) rfl, below_drewN (below_drewN ((Below.refl _ _).alloc (Nat.le_refl _) _) _) _⟩

/-- sort.Search with a closure that makes memory: the first place at which p holds. -/
theorem search_any (g : Nat) (cb : Array Value) (n : Nat) (p : Nat → Bool) (w : World) (eg : ∀ args w, (callFunc g args).run Tryd.prog w = .ok (.enter g args) w) (hsz : n < 4611686018427387904)
    (hf : ∀ (x : Kin w) (i : Nat), i < n → Calls Tryd.prog g (#[.int .i64 i] ++ cb) x.w fun e w' => e = .returned (.bool (p i)) ∧ Below x.w.heap.size x.w w')
    (hmono : ∀ a b, a ≤ b → b < n → p a = true → p b = true) :
    Calls Tryd.prog 24 #[.int .i64 n, .func (.func g) #[] cb] w fun e w' => ∃ r : Nat, e = .returned (.int .i64 r) ∧ r ≤ n ∧ (∀ t, t < r → p t = false) ∧ (∀ t, r ≤ t → t < n → p t = true) ∧ Below w.heap.size w w' := by
  have HF := Lib.hid hf
  have M := Lib.hid hmono
  clear hf hmono
  go_enter Tryd.func24, Tryd.ntmps24
  go_wp2
  go_loopg [5, 6] n (fun kx s5 s6 wr => ∃ (lo hi : Nat) (x : Kin w), s5 = .int .i64 lo ∧ s6 = .int .i64 hi ∧ lo ≤ hi ∧ hi ≤ n ∧ hi - lo ≤ kx ∧ wr = x.w ∧
    Aside ((∀ t, t < lo → p t = false) ∧ (∀ t, hi ≤ t → t < n → p t = true)))
  case atStart => exact ⟨0, n, ⟨w, Below.refl _ _⟩, rfl, rfl, Nat.zero_le _, Nat.le_refl _, by omega, rfl, (⟨fun t ht => absurd ht (Nat.not_lt_zero _), fun t h1 h2 => by omega⟩ : (∀ t, t < 0 → p t = false) ∧ (∀ t, n ≤ t → t < n → p t = true))⟩
  case round =>
    obtain ⟨lo, hi, x, rfl, rfl, hlh, hin, hg, rfl, I⟩ := hrel
    by_cases hlt : lo < hi
    · have hc := HF.out x ((lo + hi) / 2) (by omega)
      rw [show (((lo + hi) / 2 : Nat) : Int) = ((lo : Int) + (hi : Int)) / 2 by omega] at hc
      cases hp : p ((lo + hi) / 2) <;> rw [hp] at hc
      · have HP : Aside (p ((lo + hi) / 2) = false) := hp
        clear hp
        go_wp2_with (go_at_fn g; refine hc.mono ?_; rintro e w' ⟨rfl, hb⟩; obtain ⟨y, rfl⟩ := x.step hb; clear hb)
        go_roundg (hi - ((lo + hi) / 2 + 1))
        case measure => omega
        case rel =>
          have I2 : Aside ((∀ t, t < (lo + hi) / 2 + 1 → p t = false) ∧ (∀ t, hi ≤ t → t < n → p t = true)) := ⟨fun t ht => (by
            cases h : p t with
            | false => rfl
            | true => have := M.out t ((lo + hi) / 2) (by omega) (by omega) h; rw [HP.out] at this; cases this), I.out.2⟩
          exact ⟨(lo + hi) / 2 + 1, hi, _, by rw [show ((lo : Int) + (hi : Int)) / 2 + 1 = (((lo + hi) / 2 + 1 : Nat) : Int) by omega], rfl, by omega, hin, Nat.le_refl _, rfl, I2⟩
      · have HP : Aside (p ((lo + hi) / 2) = true) := hp
        clear hp
        go_wp2_with (go_at_fn g; refine hc.mono ?_; rintro e w' ⟨rfl, hb⟩; obtain ⟨y, rfl⟩ := x.step hb; clear hb)
        go_roundg ((lo + hi) / 2 - lo)
        case measure => omega
        case rel =>
          have I2 : Aside ((∀ t, t < lo → p t = false) ∧ (∀ t, (lo + hi) / 2 ≤ t → t < n → p t = true)) := ⟨I.out.1, fun t ht htn => M.out ((lo + hi) / 2) t ht htn HP.out⟩
          exact ⟨lo, (lo + hi) / 2, _, rfl, by rw [show ((lo : Int) + (hi : Int)) / 2 = (((lo + hi) / 2 : Nat) : Int) by omega], by omega, by omega, Nat.le_refl _, rfl, I2⟩
    · obtain rfl : hi = lo := by omega
      go_wp2
      go_ret
      exact ⟨hi, rfl, hin, I.out.1, I.out.2, x.below⟩

theorem weekday_any (d : Int) (w : World) (h1 : 0 ≤ d) (h2 : d ≤ 73048) :
    Calls Tryd.prog 12 #[.int .i64 d] w fun e w' => e = ret2 (d % 7) 0 ∧ w = w' := by
  have hd : decide (0 ≤ d ∧ d ≤ 73048) = true := by simp [*]
  go_enter Tryd.func12, Tryd.ntmps12
  go_wp2_with (go_at_call 23; refine (is_any _ _).mono ?_; rintro e w' ⟨rfl, rfl⟩)
  go_ret2
  exact ⟨rfl, rfl⟩

theorem civil1_any (y r : Int) (by_ br : Nat) (i : Nat) (w : World) (h1 : 1 ≤ y) (h2 : y ≤ 1000000) (hi : i < 12) (ht : Table w)
    (hy : w.cell? ⟨by_, 0, none⟩ = some (.int .i64 y)) (hr : w.cell? ⟨br, 0, none⟩ = some (.int .i64 r)) :
    Calls Tryd.prog 25 (#[.int .i64 i] ++ #[.pointer (some ⟨by_, 0, none⟩), .pointer (some ⟨br, 0, none⟩)]) w fun e w' => e = .returned (.bool (decide (r < Cal.days y (i + 1)))) ∧ Below w.heap.size w w' := by
  have HT := Lib.hid ht
  clear ht
  go_enter Tryd.func25, Tryd.ntmps25
  go_wp2
  go_quiet ((go_at_call 21; exact quiet_left (days_any _ _ _ (by omega) (by omega) (by omega) (by omega) HT.out)))
  go_wp2
  go_ret
  exact ⟨rfl, below_drewN (Below.refl _ _) _⟩
end Go.Proofs.YthnjbcdfcpchnaaDoor
