/- The walks of date's functions on calendars. -/
import Derived.Test.YthnjbcdfcpchnaaDoorDateW
import Derived.Test.YthnjbcdfcpchnaaDoorDateB
namespace Go.Proofs.YthnjbcdfcpchnaaDoor
open Go.RowKit Go.Shelf

/-- A calendar as a value. -/
abbrev cal (wk : Nat → Bool) (A : Option Addr) (n c : Nat) : Array Value :=
  #[.bool (wk 0), .bool (wk 1), .bool (wk 2), .bool (wk 3), .bool (wk 4), .bool (wk 5), .bool (wk 6), .slice A n c]

theorem ahead_any (wk : Nat → Bool) (A : Option Addr) (hs : List Int) (c : Nat) (d : Int) (w : World) (hv : Biz.incr (-1) hs = true) (hl : hs.length ≤ 400) (h0 : 0 ≤ d) (h1 : d ≤ 80000) (hh : Ints w A hs) :
    Calls Tryd.prog 27 #[.agg (cal wk A hs.length c), .int .i64 d] w fun e w' => e = .returned (.int .i64 (Biz.A wk hs d)) ∧ Below w.heap.size w w' := by
  have HH := Lib.hid hh
  have HV := Lib.hid hv
  clear hh hv
  go_enter Tryd.func27, Tryd.ntmps27
  go_wp2
  have hx : ∀ (k : Nat) (W : World), k < 7 → (Instr.index 36 (.agg #[.bool (wk 0), .bool (wk 1), .bool (wk 2), .bool (wk 3), .bool (wk 4), .bool (wk 5), .bool (wk 6)]) (.int .i64 k)).run Tryd.prog W = .ok (.bool (wk k)) W := by
    intro k W hk
    obtain rfl | rfl | rfl | rfl | rfl | rfl | rfl : k = 0 ∨ k = 1 ∨ k = 2 ∨ k = 3 ∨ k = 4 ∨ k = 5 ∨ k = 6 := by omega
    all_goals kernel_rfl
  go_loopg [5, 12] 7 (fun g s5 s12 wr => ∃ k : Nat, k ≤ 7 ∧ 7 - k ≤ g ∧ s12 = .int .i64 k ∧ s5 = .int .i64 (Biz.wsum wk d k) ∧ wr = w.alloc (.cells (cal wk A hs.length c) 39))
  case atStart => exact ⟨0, by omega, by omega, rfl, rfl, rfl⟩
  case round =>
    obtain ⟨k, hk, hg, rfl, rfl, rfl⟩ := hrel
    obtain ⟨b1, b2⟩ := Biz.wsum_bd wk d h0 (by omega) k hk
    by_cases hlt : k < 7
    · have hxk := fun W => hx k W hlt
      clear hx
      cases hw : wk k
      · rw [hw] at hxk
        have HW := Lib.hid hw
        clear hw
        go_wp2
        go_roundg (7 - (k + 1))
        case measure => omega
        case rel => exact ⟨k + 1, by omega, by omega, by go_num, by rw [Biz.wsum, HW.out]; rfl, rfl⟩
      · rw [hw] at hxk
        have HW := Lib.hid hw
        clear hw
        go_wp2
        go_roundg (7 - (k + 1))
        case measure => omega
        case rel => exact ⟨k + 1, by omega, by omega, by go_num, by rw [Biz.wsum, HW.out]; simp, rfl⟩
    · obtain rfl : k = 7 := by omega
      clear hx
      go_wp2
      go_loopg [5, 29] hs.length (fun g s5 s29 wr => ∃ k : Nat, k ≤ hs.length ∧ hs.length - k ≤ g ∧ s29 = .int .i64 k ∧ s5 = .int .i64 (Biz.wsum wk d 7 - Biz.hcnt wk d (hs.take k)) ∧ wr = w.alloc (.cells (cal wk A hs.length c) 39))
      case atStart => exact ⟨0, by omega, by omega, rfl, by simp [Biz.hcnt], rfl⟩
      case round =>
        obtain ⟨k, hk, hg, rfl, rfl, rfl⟩ := hrel
        have b3 := Biz.hcnt_bd wk d (hs.take k)
        have b4 : (hs.take k).length ≤ 400 := by have := List.length_take_le k hs; omega
        obtain ⟨b3, b5⟩ := b3
        by_cases hlt : k < hs.length
        · obtain ⟨b, off, rfl, hc⟩ := HH.out.at_ hlt
          obtain ⟨m1, m2⟩ := Biz.incr_le HV.out hs[k] (List.getElem_mem hlt)
          have ht : hs.take (k + 1) = hs.take k ++ [hs[k]] := List.take_succ_eq_append_getElem hlt
          have HS := Lib.hid (Biz.hcnt_snoc wk d (hs.take k) hs[k])
          have HT := Lib.hid ht
          have hbl : b < w.heap.size := World.block_lt_of_cell? w _ hc
          have hcw : ∀ j : Nat, j < 7 → (w.alloc (.cells (cal wk (some ⟨b, off, none⟩) hs.length c) 39)).cell? ⟨w.heap.size, j, none⟩ = some (.bool (wk j)) := by
            intro j hj
            obtain rfl | rfl | rfl | rfl | rfl | rfl | rfl : j = 0 ∨ j = 1 ∨ j = 2 ∨ j = 3 ∨ j = 4 ∨ j = 5 ∨ j = 6 := by omega
            all_goals go_simp
          have hcw7 := hcw (hs[k] % 7).toNat (by omega)
          clear ht hcw
          generalize hs[k] = h at *
          cases hw : wk (h % 7).toNat
          all_goals
            rw [hw] at hcw7
            have HW := Lib.hid hw
            clear hw
            by_cases hd : h < d
            all_goals
              go_wp2
              go_roundg (hs.length - (k + 1))
              case measure => omega
              case rel => exact ⟨k + 1, by omega, by omega, by go_num, by rw [HT.out, HS.out]; simp [Biz.offH, HW.out, hd]; try omega, rfl⟩
        · obtain rfl : k = hs.length := by omega
          go_wp2
          go_ret
          exact ⟨ret_int (by rw [List.take_length]; rfl), (Below.refl _ _).alloc (Nat.le_refl _) _⟩

theorem eql7 (b0 b1 b2 b3 b4 b5 b6 : Bool) (w : World) :
    (binOp .eql 36 (.agg #[.bool b0, .bool b1, .bool b2, .bool b3, .bool b4, .bool b5, .bool b6]) (.agg #[.bool true, .bool true, .bool true, .bool true, .bool true, .bool true, .bool true])).run Tryd.prog w =
      .ok (.bool (b0 && b1 && b2 && b3 && b4 && b5 && b6)) w := by
  cases b0
  · kernel_rfl
  cases b1
  · kernel_rfl
  cases b2
  · kernel_rfl
  cases b3
  · kernel_rfl
  cases b4
  · kernel_rfl
  cases b5
  · kernel_rfl
  cases b6
  · kernel_rfl
  · kernel_rfl

theorem valid_any (wk : Nat → Bool) (A : Option Addr) (hs : List Int) (c : Nat) (w : World) (hl : hs.length ≤ 9223372036854775807) (hh : Ints w A hs) :
    Calls Tryd.prog 20 #[.agg (cal wk A hs.length c)] w fun e w' => e = .returned (.bool (Biz.valid wk hs)) ∧ Below w.heap.size w w' := by
  have HH := Lib.hid hh
  clear hh
  by_cases c1 : Biz.allOff wk = true ∨ 400 < hs.length
  · have hf : Biz.valid wk hs = false := by unfold Biz.valid; rcases c1 with h | h <;> simp [h] <;> omega
    have HF := Lib.hid hf
    clear hf
    cases ha : Biz.allOff wk
    · have c3 : 400 < hs.length := by rw [ha] at c1; simpa using c1
      have he := fun W => eql7 (wk 0) (wk 1) (wk 2) (wk 3) (wk 4) (wk 5) (wk 6) W
      rw [show (wk 0 && wk 1 && wk 2 && wk 3 && wk 4 && wk 5 && wk 6) = false from ha] at he
      clear c1 ha
      go_enter Tryd.func20, Tryd.ntmps20
      go_wp2
      go_ret
      exact ⟨ret_bool HF.out.symm, (Below.refl _ _).alloc (Nat.le_refl _) _⟩
    · have he := fun W => eql7 (wk 0) (wk 1) (wk 2) (wk 3) (wk 4) (wk 5) (wk 6) W
      rw [show (wk 0 && wk 1 && wk 2 && wk 3 && wk 4 && wk 5 && wk 6) = true from ha] at he
      clear c1 ha
      go_enter Tryd.func20, Tryd.ntmps20
      go_wp2
      go_ret
      exact ⟨ret_bool HF.out.symm, (Below.refl _ _).alloc (Nat.le_refl _) _⟩
  · have c2 : Biz.allOff wk = false := by simp at c1; exact c1.1
    have c3 : hs.length ≤ 400 := by omega
    clear c1
    have he := fun W => eql7 (wk 0) (wk 1) (wk 2) (wk 3) (wk 4) (wk 5) (wk 6) W
    rw [show (wk 0 && wk 1 && wk 2 && wk 3 && wk 4 && wk 5 && wk 6) = false from c2] at he
    have C2 := Lib.hid c2
    clear c2
    go_enter Tryd.func20, Tryd.ntmps20
    go_wp2
    go_loopg [3, 19] hs.length (fun g s3 s19 wr => ∃ (k : Nat) (last : Int), k ≤ hs.length ∧ hs.length - k ≤ g ∧ s19 = .int .i64 k ∧ s3 = .int .i64 last ∧ Aside (Biz.incr (-1) hs = Biz.incr last (hs.drop k)) ∧ wr = w.alloc (.cells (cal wk A hs.length c) 39))
    case atStart => exact ⟨0, -1, by omega, by omega, rfl, rfl, (by simp : Biz.incr (-1) hs = Biz.incr (-1) (hs.drop 0)), rfl⟩
    case round =>
      obtain ⟨k, last, hk, hg, rfl, rfl, I, rfl⟩ := hrel
      by_cases hlt : k < hs.length
      · obtain ⟨b, off, rfl, hc⟩ := HH.out.at_ hlt
        have hd := Lib.hid (List.drop_eq_getElem_cons hlt)
        have hbl : b < w.heap.size := World.block_lt_of_cell? w _ hc
        generalize hs[k] = h at *
        by_cases h1 : last < h
        · by_cases h2 : h ≤ 73048
          · go_wp2
            go_roundg (hs.length - (k + 1))
            case measure => omega
            case rel =>
              have I2 : Aside (Biz.incr (-1) hs = Biz.incr h (hs.drop (k + 1))) := by
                show Biz.incr (-1) hs = Biz.incr h (hs.drop (k + 1))
                rw [I.out, hd.out, Biz.incr]; simp [h1, h2]
              exact ⟨k + 1, h, by omega, by omega, by go_num, rfl, I2, rfl⟩
          · go_wp2
            go_ret
            exact ⟨ret_bool (by unfold Biz.valid; rw [I.out, hd.out, Biz.incr]; simp; omega), (Below.refl _ _).alloc (Nat.le_refl _) _⟩
        · go_wp2
          go_ret
          exact ⟨ret_bool (by unfold Biz.valid; rw [I.out, hd.out, Biz.incr]; simp; intros; omega), (Below.refl _ _).alloc (Nat.le_refl _) _⟩
      · obtain rfl : k = hs.length := by omega
        go_wp2
        go_ret
        exact ⟨ret_bool (by unfold Biz.valid; rw [I.out, List.drop_length, C2.out]; simp [Biz.incr]; omega), (Below.refl _ _).alloc (Nat.le_refl _) _⟩

/-- The closure of nth: is n less than the business days up to a day? -/
theorem nth1_any (wk : Nat → Bool) (A : Option Addr) (hs : List Int) (c : Nat) (n : Int) (bc bn : Nat) (i : Nat) (w : World) (hv : Biz.incr (-1) hs = true) (hl : hs.length ≤ 400) (hi : i < 73049)
    (hh : Ints w A hs) (hn : w.cell? ⟨bn, 0, none⟩ = some (.int .i64 n)) (hc : ∀ (j : Nat) (v : Value), (cal wk A hs.length c)[j]? = some v → w.cell? ⟨bc, j, none⟩ = some v) :
    Calls Tryd.prog 30 (#[.int .i64 i] ++ #[.pointer (some ⟨bc, 0, none⟩), .pointer (some ⟨bn, 0, none⟩)]) w fun e w' => e = .returned (.bool (Biz.past wk hs n i)) ∧ Below w.heap.size w w' := by
  have HH := Lib.hid hh
  have HV := Lib.hid hv
  have k0 := fun x : Kin w => x.cell (hc 0 _ rfl)
  have k1 := fun x : Kin w => x.cell (hc 1 _ rfl)
  have k2 := fun x : Kin w => x.cell (hc 2 _ rfl)
  have k3 := fun x : Kin w => x.cell (hc 3 _ rfl)
  have k4 := fun x : Kin w => x.cell (hc 4 _ rfl)
  have k5 := fun x : Kin w => x.cell (hc 5 _ rfl)
  have k6 := fun x : Kin w => x.cell (hc 6 _ rfl)
  have k7 := fun x : Kin w => x.cell (hc 7 _ rfl)
  have kn := fun x : Kin w => x.cell hn
  clear hh hv hc hn
  go_enter Tryd.func30, Tryd.ntmps30
  go_wp2_with fail
  refine wp_region_kin (by kernel_rfl) (by kernel_rfl) (Below.refl _ w) ?_
  repeat (go_big_quiet_step ((go_at_call 27; exact kin_call (ahead_any wk A hs c _ _ HV.out hl (by omega) (by omega) (HH.out.keep (Kin.below _))))))
  refine wpQuiet_nil ?_
  intro _ hw'
  obtain ⟨x2, hw''⟩ := hw'
  subst hw''
  go_wp2
  go_ret
  exact ⟨rfl, x2.below⟩
end Go.Proofs.YthnjbcdfcpchnaaDoor
