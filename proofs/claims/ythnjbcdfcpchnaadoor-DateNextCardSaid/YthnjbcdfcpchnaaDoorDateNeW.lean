/- The walks of DateNext. -/
import Derived.Test.YthnjbcdfcpchnaaDoorDateV
namespace Go.Proofs.YthnjbcdfcpchnaaDoor.dateNext
open Go.RowKit Go.Shelf
set_option maxRecDepth 100000 in
set_option maxHeartbeats 400000 in
theorem walk_many (wk : Nat → Bool) (A : Option Addr) (hs : List Int) (c : Nat) (day lt : Int) (n e : Int) (w : World) (hl : hs.length ≤ 9223372036854775807) (HT : Hid (Table w)) (HH : Hid (Ints w A hs)) (l0 : 0 ≤ lt) (l1 : lt ≤ 65535) (HF : Hid (decide (hs.length ≤ 500) = false)) (HN : Hid (nextV wk hs day = n ∧ nextE wk hs day = e)) :
    Calls Tryd.prog 6 #[.agg (cal wk A hs.length c), .int .i64 day, .int .u16 lt] w fun e w' => e = .returned (.bool true) ∧ Below w.heap.size w w' := by
  have hb0 : Below w.heap.size w (w.alloc (.cells (cal wk A hs.length c) 39)) := (Below.refl _ _).alloc (Nat.le_refl _) _
  have ht0 := HT.out.keep hb0
  have hh0 := HH.out.keep hb0
  have HC := Lib.hid (cal_cells wk A hs.length c w 39)
  clear HT HH
  have HT := Lib.hid ht0
  have HH := Lib.hid hh0
  clear ht0 hh0
  obtain ⟨k0, HC⟩ := forall_and.1 HC.out
  obtain ⟨k1, HC⟩ := forall_and.1 HC
  obtain ⟨k2, HC⟩ := forall_and.1 HC
  obtain ⟨k3, HC⟩ := forall_and.1 HC
  obtain ⟨k4, HC⟩ := forall_and.1 HC
  obtain ⟨k5, HC⟩ := forall_and.1 HC
  obtain ⟨k6, k7⟩ := forall_and.1 HC
  clear HC
  go_enter Tryd.func6, Tryd.ntmps6
  go_wp2_with (first
    | (go_at_call 9; (with_reducible refine (head_any _ (HT.out.keep (by repeat (first | exact Below.refl _ _ | exact Kin.below _ | refine below_alloc ?_ _)))).mono ?_); rintro e w' ⟨rfl, hb⟩; obtain ⟨x, rfl⟩ := Kin.more (W := w.alloc (.cells (cal wk A hs.length c) 39)) (by repeat (first | exact Below.refl _ _ | exact Kin.below _ | refine below_alloc ?_ _)) hb; clear hb)
    | (go_at_call 14; (with_reducible refine (next_val wk A hs c day n e _ HN hl (HH.out.keep (by repeat (first | exact Below.refl _ _ | exact Kin.below _ | refine below_alloc ?_ _)))).mono ?_); rintro e w' ⟨rfl, hb⟩; obtain ⟨x, rfl⟩ := Kin.more (W := w.alloc (.cells (cal wk A hs.length c) 39)) (by repeat (first | exact Below.refl _ _ | exact Kin.below _ | refine below_alloc ?_ _)) hb; clear hb)
    | (go_at_call 15; (with_reducible refine (few_val wk A hs c false _ HF).mono ?_); rintro e w' ⟨rfl, hb⟩; obtain ⟨x, rfl⟩ := Kin.more (W := w.alloc (.cells (cal wk A hs.length c) 39)) (by repeat (first | exact Below.refl _ _ | exact Kin.below _ | refine below_alloc ?_ _)) hb; clear hb))
  go_ret
  exact ⟨rfl, hb0.trans (Below.mono (Kin.below _) hb0.size)⟩

set_option maxRecDepth 100000 in
set_option maxHeartbeats 400000 in
theorem walk_arg (wk : Nat → Bool) (A : Option Addr) (hs : List Int) (c : Nat) (day lt : Int) (n : Int) (w : World) (hl : hs.length ≤ 9223372036854775807) (HT : Hid (Table w)) (HH : Hid (Ints w A hs)) (l0 : 0 ≤ lt) (l1 : lt ≤ 65535) (HF : Hid (decide (hs.length ≤ 500) = true)) (HN : Hid (nextV wk hs day = n ∧ nextE wk hs day = 1)) :
    Calls Tryd.prog 6 #[.agg (cal wk A hs.length c), .int .i64 day, .int .u16 lt] w fun e w' => e = .returned (.bool true) ∧ Below w.heap.size w w' := by
  have hb0 : Below w.heap.size w (w.alloc (.cells (cal wk A hs.length c) 39)) := (Below.refl _ _).alloc (Nat.le_refl _) _
  have ht0 := HT.out.keep hb0
  have hh0 := HH.out.keep hb0
  have HC := Lib.hid (cal_cells wk A hs.length c w 39)
  clear HT HH
  have HT := Lib.hid ht0
  have HH := Lib.hid hh0
  clear ht0 hh0
  obtain ⟨k0, HC⟩ := forall_and.1 HC.out
  obtain ⟨k1, HC⟩ := forall_and.1 HC
  obtain ⟨k2, HC⟩ := forall_and.1 HC
  obtain ⟨k3, HC⟩ := forall_and.1 HC
  obtain ⟨k4, HC⟩ := forall_and.1 HC
  obtain ⟨k5, HC⟩ := forall_and.1 HC
  obtain ⟨k6, k7⟩ := forall_and.1 HC
  clear HC
  go_enter Tryd.func6, Tryd.ntmps6
  go_wp2_with (first
    | (go_at_call 9; (with_reducible refine (head_any _ (HT.out.keep (by repeat (first | exact Below.refl _ _ | exact Kin.below _ | refine below_alloc ?_ _)))).mono ?_); rintro e w' ⟨rfl, hb⟩; obtain ⟨x, rfl⟩ := Kin.more (W := w.alloc (.cells (cal wk A hs.length c) 39)) (by repeat (first | exact Below.refl _ _ | exact Kin.below _ | refine below_alloc ?_ _)) hb; clear hb)
    | (go_at_call 14; (with_reducible refine (next_val wk A hs c day n 1 _ HN hl (HH.out.keep (by repeat (first | exact Below.refl _ _ | exact Kin.below _ | refine below_alloc ?_ _)))).mono ?_); rintro e w' ⟨rfl, hb⟩; obtain ⟨x, rfl⟩ := Kin.more (W := w.alloc (.cells (cal wk A hs.length c) 39)) (by repeat (first | exact Below.refl _ _ | exact Kin.below _ | refine below_alloc ?_ _)) hb; clear hb)
    | (go_at_call 15; (with_reducible refine (few_val wk A hs c true _ HF).mono ?_); rintro e w' ⟨rfl, hb⟩; obtain ⟨x, rfl⟩ := Kin.more (W := w.alloc (.cells (cal wk A hs.length c) 39)) (by repeat (first | exact Below.refl _ _ | exact Kin.below _ | refine below_alloc ?_ _)) hb; clear hb))
  go_ret
  exact ⟨rfl, hb0.trans (Below.mono (Kin.below _) hb0.size)⟩

set_option maxRecDepth 100000 in
set_option maxHeartbeats 400000 in
theorem walk_none (wk : Nat → Bool) (A : Option Addr) (hs : List Int) (c : Nat) (day lt : Int) (n : Int) (w : World) (hl : hs.length ≤ 9223372036854775807) (HT : Hid (Table w)) (HH : Hid (Ints w A hs)) (l0 : 0 ≤ lt) (l1 : lt ≤ 65535) (HF : Hid (decide (hs.length ≤ 500) = true)) (HN : Hid (nextV wk hs day = n ∧ nextE wk hs day = 2)) (H1 : Hid (bizF wk hs 73048 = false)) (H2 : Hid (bizF wk hs day = false)) :
    Calls Tryd.prog 6 #[.agg (cal wk A hs.length c), .int .i64 day, .int .u16 lt] w fun e w' => e = .returned (.bool true) ∧ Below w.heap.size w w' := by
  have hb0 : Below w.heap.size w (w.alloc (.cells (cal wk A hs.length c) 39)) := (Below.refl _ _).alloc (Nat.le_refl _) _
  have ht0 := HT.out.keep hb0
  have hh0 := HH.out.keep hb0
  have HC := Lib.hid (cal_cells wk A hs.length c w 39)
  clear HT HH
  have HT := Lib.hid ht0
  have HH := Lib.hid hh0
  clear ht0 hh0
  obtain ⟨k0, HC⟩ := forall_and.1 HC.out
  obtain ⟨k1, HC⟩ := forall_and.1 HC
  obtain ⟨k2, HC⟩ := forall_and.1 HC
  obtain ⟨k3, HC⟩ := forall_and.1 HC
  obtain ⟨k4, HC⟩ := forall_and.1 HC
  obtain ⟨k5, HC⟩ := forall_and.1 HC
  obtain ⟨k6, k7⟩ := forall_and.1 HC
  clear HC
  go_enter Tryd.func6, Tryd.ntmps6
  go_wp2_with (first
    | (go_at_call 9; (with_reducible refine (head_any _ (HT.out.keep (by repeat (first | exact Below.refl _ _ | exact Kin.below _ | refine below_alloc ?_ _)))).mono ?_); rintro e w' ⟨rfl, hb⟩; obtain ⟨x, rfl⟩ := Kin.more (W := w.alloc (.cells (cal wk A hs.length c) 39)) (by repeat (first | exact Below.refl _ _ | exact Kin.below _ | refine below_alloc ?_ _)) hb; clear hb)
    | (go_at_call 14; (with_reducible refine (next_val wk A hs c day n 2 _ HN hl (HH.out.keep (by repeat (first | exact Below.refl _ _ | exact Kin.below _ | refine below_alloc ?_ _)))).mono ?_); rintro e w' ⟨rfl, hb⟩; obtain ⟨x, rfl⟩ := Kin.more (W := w.alloc (.cells (cal wk A hs.length c) 39)) (by repeat (first | exact Below.refl _ _ | exact Kin.below _ | refine below_alloc ?_ _)) hb; clear hb)
    | (go_at_call 15; (with_reducible refine (few_val wk A hs c true _ HF).mono ?_); rintro e w' ⟨rfl, hb⟩; obtain ⟨x, rfl⟩ := Kin.more (W := w.alloc (.cells (cal wk A hs.length c) 39)) (by repeat (first | exact Below.refl _ _ | exact Kin.below _ | refine below_alloc ?_ _)) hb; clear hb)
    | (go_at_call 16; (with_reducible refine (biz_val wk A hs c 73048 false _ H1 hl (HH.out.keep (by repeat (first | exact Below.refl _ _ | exact Kin.below _ | refine below_alloc ?_ _)))).mono ?_); rintro e w' ⟨rfl, hb⟩; obtain ⟨x, rfl⟩ := Kin.more (W := w.alloc (.cells (cal wk A hs.length c) 39)) (by repeat (first | exact Below.refl _ _ | exact Kin.below _ | refine below_alloc ?_ _)) hb; clear hb)
    | (go_at_call 16; (with_reducible refine (biz_val wk A hs c day false _ H2 hl (HH.out.keep (by repeat (first | exact Below.refl _ _ | exact Kin.below _ | refine below_alloc ?_ _)))).mono ?_); rintro e w' ⟨rfl, hb⟩; obtain ⟨x, rfl⟩ := Kin.more (W := w.alloc (.cells (cal wk A hs.length c) 39)) (by repeat (first | exact Below.refl _ _ | exact Kin.below _ | refine below_alloc ?_ _)) hb; clear hb))
  go_ret
  exact ⟨rfl, hb0.trans (Below.mono (Kin.below _) hb0.size)⟩

set_option maxRecDepth 100000 in
set_option maxHeartbeats 400000 in
theorem walk_some (wk : Nat → Bool) (A : Option Addr) (hs : List Int) (c : Nat) (day lt : Int) (n m g : Int) (w : World) (hl : hs.length ≤ 9223372036854775807) (HT : Hid (Table w)) (HH : Hid (Ints w A hs)) (l0 : 0 ≤ lt) (l1 : lt ≤ 65535) (d0 : 0 ≤ day) (dn : day ≤ n) (n1 : n ≤ 73048) (HF : Hid (decide (hs.length ≤ 500) = true)) (HN : Hid (nextV wk hs day = n ∧ nextE wk hs day = 0)) (H2 : Hid (bizF wk hs n = true)) (HB : Hid (∀ d, day ≤ d → d < n → bizF wk hs d = false)) (H3 : Hid (nextV wk hs n = n ∧ nextE wk hs n = 0)) (H4 : Hid (nextV wk hs (day + lt % 401) = m ∧ nextE wk hs (day + lt % 401) = g)) (HM : Hid (g = 0 → n ≤ m)) :
    Calls Tryd.prog 6 #[.agg (cal wk A hs.length c), .int .i64 day, .int .u16 lt] w fun e w' => e = .returned (.bool true) ∧ Below w.heap.size w w' := by
  have hb0 : Below w.heap.size w (w.alloc (.cells (cal wk A hs.length c) 39)) := (Below.refl _ _).alloc (Nat.le_refl _) _
  have ht0 := HT.out.keep hb0
  have hh0 := HH.out.keep hb0
  have HC := Lib.hid (cal_cells wk A hs.length c w 39)
  clear HT HH
  have HT := Lib.hid ht0
  have HH := Lib.hid hh0
  clear ht0 hh0
  obtain ⟨k0, HC⟩ := forall_and.1 HC.out
  obtain ⟨k1, HC⟩ := forall_and.1 HC
  obtain ⟨k2, HC⟩ := forall_and.1 HC
  obtain ⟨k3, HC⟩ := forall_and.1 HC
  obtain ⟨k4, HC⟩ := forall_and.1 HC
  obtain ⟨k5, HC⟩ := forall_and.1 HC
  obtain ⟨k6, k7⟩ := forall_and.1 HC
  clear HC
  go_enter Tryd.func6, Tryd.ntmps6
  go_wp2_with (first
    | (go_at_call 9; (with_reducible refine (head_any _ (HT.out.keep (by repeat (first | exact Below.refl _ _ | exact Kin.below _ | refine below_alloc ?_ _)))).mono ?_); rintro e w' ⟨rfl, hb⟩; obtain ⟨x, rfl⟩ := Kin.more (W := w.alloc (.cells (cal wk A hs.length c) 39)) (by repeat (first | exact Below.refl _ _ | exact Kin.below _ | refine below_alloc ?_ _)) hb; clear hb)
    | (go_at_call 14; (with_reducible refine (next_val wk A hs c day n 0 _ HN hl (HH.out.keep (by repeat (first | exact Below.refl _ _ | exact Kin.below _ | refine below_alloc ?_ _)))).mono ?_); rintro e w' ⟨rfl, hb⟩; obtain ⟨x, rfl⟩ := Kin.more (W := w.alloc (.cells (cal wk A hs.length c) 39)) (by repeat (first | exact Below.refl _ _ | exact Kin.below _ | refine below_alloc ?_ _)) hb; clear hb)
    | (go_at_call 15; (with_reducible refine (few_val wk A hs c true _ HF).mono ?_); rintro e w' ⟨rfl, hb⟩; obtain ⟨x, rfl⟩ := Kin.more (W := w.alloc (.cells (cal wk A hs.length c) 39)) (by repeat (first | exact Below.refl _ _ | exact Kin.below _ | refine below_alloc ?_ _)) hb; clear hb)
    | (go_at_call 16; (with_reducible refine (biz_val wk A hs c n true _ H2 hl (HH.out.keep (by repeat (first | exact Below.refl _ _ | exact Kin.below _ | refine below_alloc ?_ _)))).mono ?_); rintro e w' ⟨rfl, hb⟩; obtain ⟨x, rfl⟩ := Kin.more (W := w.alloc (.cells (cal wk A hs.length c) 39)) (by repeat (first | exact Below.refl _ _ | exact Kin.below _ | refine below_alloc ?_ _)) hb; clear hb))
  go_loopg [10] (n - day).toNat (fun g s10 wr => ∃ (d : Int) (x : Kin (w.alloc (.cells (cal wk A hs.length c) 39))), s10 = .int .i64 d ∧ day ≤ d ∧ d ≤ n ∧ n - d ≤ g ∧ wr = x.w)
  case atStart => exact ⟨day, _, rfl, by omega, by omega, by omega, rfl⟩
  case round =>
    obtain ⟨d, x, rfl, e1, e2, e3, rfl⟩ := hrel
    by_cases c1 : d < n
    · by_cases c2 : d < day + 500
      · have H5 := HB.out d e1 c1
        have H5 := Lib.hid H5
        go_wp2_with (go_at_call 16; (with_reducible refine (biz_val wk A hs c d false _ H5 hl (HH.out.keep (by repeat (first | exact Below.refl _ _ | exact Kin.below _ | refine below_alloc ?_ _)))).mono ?_); rintro e w' ⟨rfl, hb⟩; obtain ⟨x, rfl⟩ := Kin.more (W := w.alloc (.cells (cal wk A hs.length c) 39)) (by repeat (first | exact Below.refl _ _ | exact Kin.below _ | refine below_alloc ?_ _)) hb; clear hb)
        go_roundg (n - (d + 1)).toNat
        case measure => omega
        case rel => exact ⟨d + 1, _, rfl, by omega, by omega, by omega, rfl⟩
      · go_wp2_with (first
          | (go_at_call 14; (with_reducible refine (next_val wk A hs c n n 0 _ H3 hl (HH.out.keep (by repeat (first | exact Below.refl _ _ | exact Kin.below _ | refine below_alloc ?_ _)))).mono ?_); rintro e w' ⟨rfl, hb⟩; obtain ⟨x, rfl⟩ := Kin.more (W := w.alloc (.cells (cal wk A hs.length c) 39)) (by repeat (first | exact Below.refl _ _ | exact Kin.below _ | refine below_alloc ?_ _)) hb; clear hb)
          | (go_at_call 14; (with_reducible refine (next_val wk A hs c (day + lt % 401) m g _ H4 hl (HH.out.keep (by repeat (first | exact Below.refl _ _ | exact Kin.below _ | refine below_alloc ?_ _)))).mono ?_); rintro e w' ⟨rfl, hb⟩; obtain ⟨x, rfl⟩ := Kin.more (W := w.alloc (.cells (cal wk A hs.length c) 39)) (by repeat (first | exact Below.refl _ _ | exact Kin.below _ | refine below_alloc ?_ _)) hb; clear hb))
        all_goals
          go_ret
          first
            | exact ⟨rfl, hb0.trans (Below.mono (Kin.below _) hb0.size)⟩
            | exact ⟨ret_bool (decide_eq_true (HM.out (by assumption))), hb0.trans (Below.mono (Kin.below _) hb0.size)⟩
    · go_wp2_with (first
        | (go_at_call 14; (with_reducible refine (next_val wk A hs c n n 0 _ H3 hl (HH.out.keep (by repeat (first | exact Below.refl _ _ | exact Kin.below _ | refine below_alloc ?_ _)))).mono ?_); rintro e w' ⟨rfl, hb⟩; obtain ⟨x, rfl⟩ := Kin.more (W := w.alloc (.cells (cal wk A hs.length c) 39)) (by repeat (first | exact Below.refl _ _ | exact Kin.below _ | refine below_alloc ?_ _)) hb; clear hb)
        | (go_at_call 14; (with_reducible refine (next_val wk A hs c (day + lt % 401) m g _ H4 hl (HH.out.keep (by repeat (first | exact Below.refl _ _ | exact Kin.below _ | refine below_alloc ?_ _)))).mono ?_); rintro e w' ⟨rfl, hb⟩; obtain ⟨x, rfl⟩ := Kin.more (W := w.alloc (.cells (cal wk A hs.length c) 39)) (by repeat (first | exact Below.refl _ _ | exact Kin.below _ | refine below_alloc ?_ _)) hb; clear hb))
      all_goals
        go_ret
        first
          | exact ⟨rfl, hb0.trans (Below.mono (Kin.below _) hb0.size)⟩
          | exact ⟨ret_bool (decide_eq_true (HM.out (by assumption))), hb0.trans (Below.mono (Kin.below _) hb0.size)⟩

end Go.Proofs.YthnjbcdfcpchnaaDoor.dateNext
