/- The walks of DateCount. -/
import Derived.Test.YthnjbcdfcpchnaaDoorDateV
namespace Go.Proofs.YthnjbcdfcpchnaaDoor.dateCount
open Go.RowKit Go.Shelf
set_option maxRecDepth 100000 in
set_option maxHeartbeats 400000 in
theorem walk_bad_true (wk : Nat → Bool) (A : Option Addr) (hs : List Int) (c : Nat) (day f1 f2 : Int) (w : World) (hl : hs.length ≤ 9223372036854775807) (HT : Hid (Table w)) (HH : Hid (Ints w A hs)) (l0 : 0 ≤ f1) (l1 : f1 ≤ 65535) (l2 : 0 ≤ f2) (l3 : f2 ≤ 65535) (HF : Hid (decide (hs.length ≤ 500) = true)) (hv : ∀ b, cntV wk hs day b = 0) (he : ∀ b, cntE wk hs day b = 1) :
    Calls Tryd.prog 8 #[.agg (cal wk A hs.length c), .int .i64 day, .int .u16 f1, .int .u16 f2] w fun e w' => e = .returned (.bool true) ∧ Below w.heap.size w w' := by
  have hb0 : Below w.heap.size w (w.alloc (.cells (cal wk A hs.length c) 39)) := (Below.refl _ _).alloc (Nat.le_refl _) _
  have ht0 := HT.out.keep hb0
  have hh0 := HH.out.keep hb0
  have HC := Lib.hid (cal_cells wk A hs.length c w 39)
  clear HT HH
  have HT := Lib.hid ht0
  have HH := Lib.hid hh0
  clear ht0 hh0
  obtain ⟨k0, HC⟩ := forall_and.1 HC.out
  obtain ⟨k1, HC⟩ := forall_and.1 HC
  obtain ⟨k2, HC⟩ := forall_and.1 HC
  obtain ⟨k3, HC⟩ := forall_and.1 HC
  obtain ⟨k4, HC⟩ := forall_and.1 HC
  obtain ⟨k5, HC⟩ := forall_and.1 HC
  obtain ⟨k6, k7⟩ := forall_and.1 HC
  clear HC
  go_enter Tryd.func8, Tryd.ntmps8
  go_wp2_with (first
    | (go_at_call 9; (with_reducible refine (head_any _ (HT.out.keep (by repeat (first | exact Below.refl _ _ | exact Kin.below _ | refine below_alloc ?_ _)))).mono ?_); rintro e w' ⟨rfl, hb⟩; obtain ⟨x, rfl⟩ := Kin.more (W := w.alloc (.cells (cal wk A hs.length c) 39)) (by repeat (first | exact Below.refl _ _ | exact Kin.below _ | refine below_alloc ?_ _)) hb; clear hb)
    | (go_at_call 18; (with_reducible refine (count_all wk A hs c _ _ _ hl (HH.out.keep (by repeat (first | exact Below.refl _ _ | exact Kin.below _ | refine below_alloc ?_ _)))).mono ?_); rintro e w' ⟨rfl, hb⟩; obtain ⟨x, rfl⟩ := Kin.more (W := w.alloc (.cells (cal wk A hs.length c) 39)) (by repeat (first | exact Below.refl _ _ | exact Kin.below _ | refine below_alloc ?_ _)) hb; clear hb)
    | (go_at_call 15; (with_reducible refine (few_val wk A hs c true _ HF).mono ?_); rintro e w' ⟨rfl, hb⟩; obtain ⟨x, rfl⟩ := Kin.more (W := w.alloc (.cells (cal wk A hs.length c) 39)) (by repeat (first | exact Below.refl _ _ | exact Kin.below _ | refine below_alloc ?_ _)) hb; clear hb))
  go_ret
  exact ⟨rfl, hb0.trans (Below.mono (Kin.below _) hb0.size)⟩

set_option maxRecDepth 100000 in
set_option maxHeartbeats 400000 in
theorem walk_bad_false (wk : Nat → Bool) (A : Option Addr) (hs : List Int) (c : Nat) (day f1 f2 : Int) (w : World) (hl : hs.length ≤ 9223372036854775807) (HT : Hid (Table w)) (HH : Hid (Ints w A hs)) (l0 : 0 ≤ f1) (l1 : f1 ≤ 65535) (l2 : 0 ≤ f2) (l3 : f2 ≤ 65535) (HF : Hid (decide (hs.length ≤ 500) = false)) (hv : ∀ b, cntV wk hs day b = 0) (he : ∀ b, cntE wk hs day b = 1) :
    Calls Tryd.prog 8 #[.agg (cal wk A hs.length c), .int .i64 day, .int .u16 f1, .int .u16 f2] w fun e w' => e = .returned (.bool true) ∧ Below w.heap.size w w' := by
  have hb0 : Below w.heap.size w (w.alloc (.cells (cal wk A hs.length c) 39)) := (Below.refl _ _).alloc (Nat.le_refl _) _
  have ht0 := HT.out.keep hb0
  have hh0 := HH.out.keep hb0
  have HC := Lib.hid (cal_cells wk A hs.length c w 39)
  clear HT HH
  have HT := Lib.hid ht0
  have HH := Lib.hid hh0
  clear ht0 hh0
  obtain ⟨k0, HC⟩ := forall_and.1 HC.out
  obtain ⟨k1, HC⟩ := forall_and.1 HC
  obtain ⟨k2, HC⟩ := forall_and.1 HC
  obtain ⟨k3, HC⟩ := forall_and.1 HC
  obtain ⟨k4, HC⟩ := forall_and.1 HC
  obtain ⟨k5, HC⟩ := forall_and.1 HC
  obtain ⟨k6, k7⟩ := forall_and.1 HC
  clear HC
  go_enter Tryd.func8, Tryd.ntmps8
  go_wp2_with (first
    | (go_at_call 9; (with_reducible refine (head_any _ (HT.out.keep (by repeat (first | exact Below.refl _ _ | exact Kin.below _ | refine below_alloc ?_ _)))).mono ?_); rintro e w' ⟨rfl, hb⟩; obtain ⟨x, rfl⟩ := Kin.more (W := w.alloc (.cells (cal wk A hs.length c) 39)) (by repeat (first | exact Below.refl _ _ | exact Kin.below _ | refine below_alloc ?_ _)) hb; clear hb)
    | (go_at_call 18; (with_reducible refine (count_all wk A hs c _ _ _ hl (HH.out.keep (by repeat (first | exact Below.refl _ _ | exact Kin.below _ | refine below_alloc ?_ _)))).mono ?_); rintro e w' ⟨rfl, hb⟩; obtain ⟨x, rfl⟩ := Kin.more (W := w.alloc (.cells (cal wk A hs.length c) 39)) (by repeat (first | exact Below.refl _ _ | exact Kin.below _ | refine below_alloc ?_ _)) hb; clear hb)
    | (go_at_call 15; (with_reducible refine (few_val wk A hs c false _ HF).mono ?_); rintro e w' ⟨rfl, hb⟩; obtain ⟨x, rfl⟩ := Kin.more (W := w.alloc (.cells (cal wk A hs.length c) 39)) (by repeat (first | exact Below.refl _ _ | exact Kin.below _ | refine below_alloc ?_ _)) hb; clear hb))
  go_ret
  exact ⟨rfl, hb0.trans (Below.mono (Kin.below _) hb0.size)⟩

set_option maxRecDepth 100000 in
set_option maxHeartbeats 400000 in
theorem walk_far (wk : Nat → Bool) (A : Option Addr) (hs : List Int) (c : Nat) (day f1 f2 : Int) (a ea b eb : Int) (w : World) (hl : hs.length ≤ 9223372036854775807) (HT : Hid (Table w)) (HH : Hid (Ints w A hs)) (l0 : 0 ≤ f1) (l1 : f1 ≤ 65535) (l2 : 0 ≤ f2) (l3 : f2 ≤ 65535) (HA : Hid (cntV wk hs day (day + f1 % 500) = a ∧ cntE wk hs day (day + f1 % 500) = ea)) (HB : Hid (cntV wk hs (day + f1 % 500) (day + f1 % 500 + f2 % 500) = b ∧ cntE wk hs (day + f1 % 500) (day + f1 % 500 + f2 % 500) = eb)) (HC2 : Hid (cntV wk hs day (day + f1 % 500 + f2 % 500) = 0 ∧ cntE wk hs day (day + f1 % 500 + f2 % 500) = 1)) (HF : Hid (decide (hs.length ≤ 500) = true)) (d0 : 0 ≤ day) (d1 : day ≤ 73048) :
    Calls Tryd.prog 8 #[.agg (cal wk A hs.length c), .int .i64 day, .int .u16 f1, .int .u16 f2] w fun e w' => e = .returned (.bool true) ∧ Below w.heap.size w w' := by
  have hb0 : Below w.heap.size w (w.alloc (.cells (cal wk A hs.length c) 39)) := (Below.refl _ _).alloc (Nat.le_refl _) _
  have ht0 := HT.out.keep hb0
  have hh0 := HH.out.keep hb0
  have HC := Lib.hid (cal_cells wk A hs.length c w 39)
  clear HT HH
  have HT := Lib.hid ht0
  have HH := Lib.hid hh0
  clear ht0 hh0
  obtain ⟨k0, HC⟩ := forall_and.1 HC.out
  obtain ⟨k1, HC⟩ := forall_and.1 HC
  obtain ⟨k2, HC⟩ := forall_and.1 HC
  obtain ⟨k3, HC⟩ := forall_and.1 HC
  obtain ⟨k4, HC⟩ := forall_and.1 HC
  obtain ⟨k5, HC⟩ := forall_and.1 HC
  obtain ⟨k6, k7⟩ := forall_and.1 HC
  clear HC
  go_enter Tryd.func8, Tryd.ntmps8
  go_wp2_with (first
    | (go_at_call 9; (with_reducible refine (head_any _ (HT.out.keep (by repeat (first | exact Below.refl _ _ | exact Kin.below _ | refine below_alloc ?_ _)))).mono ?_); rintro e w' ⟨rfl, hb⟩; obtain ⟨x, rfl⟩ := Kin.more (W := w.alloc (.cells (cal wk A hs.length c) 39)) (by repeat (first | exact Below.refl _ _ | exact Kin.below _ | refine below_alloc ?_ _)) hb; clear hb)
    | (go_at_call 18; (with_reducible refine (count_val wk A hs c day (day + f1 % 500) a ea _ HA hl (HH.out.keep (by repeat (first | exact Below.refl _ _ | exact Kin.below _ | refine below_alloc ?_ _)))).mono ?_); rintro e w' ⟨rfl, hb⟩; obtain ⟨x, rfl⟩ := Kin.more (W := w.alloc (.cells (cal wk A hs.length c) 39)) (by repeat (first | exact Below.refl _ _ | exact Kin.below _ | refine below_alloc ?_ _)) hb; clear hb)
    | (go_at_call 18; (with_reducible refine (count_val wk A hs c (day + f1 % 500) (day + f1 % 500 + f2 % 500) b eb _ HB hl (HH.out.keep (by repeat (first | exact Below.refl _ _ | exact Kin.below _ | refine below_alloc ?_ _)))).mono ?_); rintro e w' ⟨rfl, hb⟩; obtain ⟨x, rfl⟩ := Kin.more (W := w.alloc (.cells (cal wk A hs.length c) 39)) (by repeat (first | exact Below.refl _ _ | exact Kin.below _ | refine below_alloc ?_ _)) hb; clear hb)
    | (go_at_call 18; (with_reducible refine (count_val wk A hs c day (day + f1 % 500 + f2 % 500) 0 1 _ HC2 hl (HH.out.keep (by repeat (first | exact Below.refl _ _ | exact Kin.below _ | refine below_alloc ?_ _)))).mono ?_); rintro e w' ⟨rfl, hb⟩; obtain ⟨x, rfl⟩ := Kin.more (W := w.alloc (.cells (cal wk A hs.length c) 39)) (by repeat (first | exact Below.refl _ _ | exact Kin.below _ | refine below_alloc ?_ _)) hb; clear hb)
    | (go_at_call 15; (with_reducible refine (few_val wk A hs c true _ HF).mono ?_); rintro e w' ⟨rfl, hb⟩; obtain ⟨x, rfl⟩ := Kin.more (W := w.alloc (.cells (cal wk A hs.length c) 39)) (by repeat (first | exact Below.refl _ _ | exact Kin.below _ | refine below_alloc ?_ _)) hb; clear hb))
  go_ret
  exact ⟨rfl, hb0.trans (Below.mono (Kin.below _) hb0.size)⟩

set_option maxRecDepth 100000 in
set_option maxHeartbeats 400000 in
theorem walk_h0_max (wk : Nat → Bool) (A : Option Addr) (hs : List Int) (c : Nat) (day f1 f2 : Int) (a b al nx : Int) (w : World) (hl : hs.length ≤ 9223372036854775807) (HT : Hid (Table w)) (HH : Hid (Ints w A hs)) (l0 : 0 ≤ f1) (l1 : f1 ≤ 65535) (l2 : 0 ≤ f2) (l3 : f2 ≤ 65535) (HA : Hid (cntV wk hs day (day + f1 % 500) = a ∧ cntE wk hs day (day + f1 % 500) = 0)) (HB : Hid (cntV wk hs (day + f1 % 500) (day + f1 % 500 + f2 % 500) = b ∧ cntE wk hs (day + f1 % 500) (day + f1 % 500 + f2 % 500) = 0)) (HC2 : Hid (cntV wk hs day (day + f1 % 500 + f2 % 500) = al ∧ cntE wk hs day (day + f1 % 500 + f2 % 500) = 0)) (HF : Hid (decide (hs.length ≤ 500) = true)) (d0 : 0 ≤ day) (d1 : day ≤ 73048) (a0 : 0 ≤ a) (a1 : a ≤ 80000) (b0 : 0 ≤ b) (b1 : b ≤ 80000) (s1 : a + b ≤ al) (s2 : al ≤ a + b) (s3 : al ≤ f1 % 500 + f2 % 500) (HX : Hid (nextV wk hs day = nx ∧ nextE wk hs day = 0)) (HN : Hid (cntV wk hs day nx = 0 ∧ cntE wk hs day nx = 0)) (hm : 73048 ≤ day) :
    Calls Tryd.prog 8 #[.agg (cal wk A hs.length c), .int .i64 day, .int .u16 f1, .int .u16 f2] w fun e w' => e = .returned (.bool true) ∧ Below w.heap.size w w' := by
  have hb0 : Below w.heap.size w (w.alloc (.cells (cal wk A hs.length c) 39)) := (Below.refl _ _).alloc (Nat.le_refl _) _
  have ht0 := HT.out.keep hb0
  have hh0 := HH.out.keep hb0
  have HC := Lib.hid (cal_cells wk A hs.length c w 39)
  clear HT HH
  have HT := Lib.hid ht0
  have HH := Lib.hid hh0
  clear ht0 hh0
  obtain ⟨k0, HC⟩ := forall_and.1 HC.out
  obtain ⟨k1, HC⟩ := forall_and.1 HC
  obtain ⟨k2, HC⟩ := forall_and.1 HC
  obtain ⟨k3, HC⟩ := forall_and.1 HC
  obtain ⟨k4, HC⟩ := forall_and.1 HC
  obtain ⟨k5, HC⟩ := forall_and.1 HC
  obtain ⟨k6, k7⟩ := forall_and.1 HC
  clear HC
  go_enter Tryd.func8, Tryd.ntmps8
  go_wp2_with (first
    | (go_at_call 9; (with_reducible refine (head_any _ (HT.out.keep (by repeat (first | exact Below.refl _ _ | exact Kin.below _ | refine below_alloc ?_ _)))).mono ?_); rintro e w' ⟨rfl, hb⟩; obtain ⟨x, rfl⟩ := Kin.more (W := w.alloc (.cells (cal wk A hs.length c) 39)) (by repeat (first | exact Below.refl _ _ | exact Kin.below _ | refine below_alloc ?_ _)) hb; clear hb)
    | (go_at_call 18; (with_reducible refine (count_val wk A hs c day (day + f1 % 500) a 0 _ HA hl (HH.out.keep (by repeat (first | exact Below.refl _ _ | exact Kin.below _ | refine below_alloc ?_ _)))).mono ?_); rintro e w' ⟨rfl, hb⟩; obtain ⟨x, rfl⟩ := Kin.more (W := w.alloc (.cells (cal wk A hs.length c) 39)) (by repeat (first | exact Below.refl _ _ | exact Kin.below _ | refine below_alloc ?_ _)) hb; clear hb)
    | (go_at_call 18; (with_reducible refine (count_val wk A hs c (day + f1 % 500) (day + f1 % 500 + f2 % 500) b 0 _ HB hl (HH.out.keep (by repeat (first | exact Below.refl _ _ | exact Kin.below _ | refine below_alloc ?_ _)))).mono ?_); rintro e w' ⟨rfl, hb⟩; obtain ⟨x, rfl⟩ := Kin.more (W := w.alloc (.cells (cal wk A hs.length c) 39)) (by repeat (first | exact Below.refl _ _ | exact Kin.below _ | refine below_alloc ?_ _)) hb; clear hb)
    | (go_at_call 18; (with_reducible refine (count_val wk A hs c day (day + f1 % 500 + f2 % 500) al 0 _ HC2 hl (HH.out.keep (by repeat (first | exact Below.refl _ _ | exact Kin.below _ | refine below_alloc ?_ _)))).mono ?_); rintro e w' ⟨rfl, hb⟩; obtain ⟨x, rfl⟩ := Kin.more (W := w.alloc (.cells (cal wk A hs.length c) 39)) (by repeat (first | exact Below.refl _ _ | exact Kin.below _ | refine below_alloc ?_ _)) hb; clear hb)
    | (go_at_call 15; (with_reducible refine (few_val wk A hs c true _ HF).mono ?_); rintro e w' ⟨rfl, hb⟩; obtain ⟨x, rfl⟩ := Kin.more (W := w.alloc (.cells (cal wk A hs.length c) 39)) (by repeat (first | exact Below.refl _ _ | exact Kin.below _ | refine below_alloc ?_ _)) hb; clear hb)
    | (go_at_call 14; (with_reducible refine (next_val wk A hs c day nx 0 _ HX hl (HH.out.keep (by repeat (first | exact Below.refl _ _ | exact Kin.below _ | refine below_alloc ?_ _)))).mono ?_); rintro e w' ⟨rfl, hb⟩; obtain ⟨x, rfl⟩ := Kin.more (W := w.alloc (.cells (cal wk A hs.length c) 39)) (by repeat (first | exact Below.refl _ _ | exact Kin.below _ | refine below_alloc ?_ _)) hb; clear hb)
    | (go_at_call 18; (with_reducible refine (count_val wk A hs c day nx 0 0 _ HN hl (HH.out.keep (by repeat (first | exact Below.refl _ _ | exact Kin.below _ | refine below_alloc ?_ _)))).mono ?_); rintro e w' ⟨rfl, hb⟩; obtain ⟨x, rfl⟩ := Kin.more (W := w.alloc (.cells (cal wk A hs.length c) 39)) (by repeat (first | exact Below.refl _ _ | exact Kin.below _ | refine below_alloc ?_ _)) hb; clear hb))
  go_ret
  exact ⟨rfl, hb0.trans (Below.mono (Kin.below _) hb0.size)⟩

set_option maxRecDepth 100000 in
set_option maxHeartbeats 400000 in
theorem walk_h0_true (wk : Nat → Bool) (A : Option Addr) (hs : List Int) (c : Nat) (day f1 f2 : Int) (a b al nx : Int) (w : World) (hl : hs.length ≤ 9223372036854775807) (HT : Hid (Table w)) (HH : Hid (Ints w A hs)) (l0 : 0 ≤ f1) (l1 : f1 ≤ 65535) (l2 : 0 ≤ f2) (l3 : f2 ≤ 65535) (HA : Hid (cntV wk hs day (day + f1 % 500) = a ∧ cntE wk hs day (day + f1 % 500) = 0)) (HB : Hid (cntV wk hs (day + f1 % 500) (day + f1 % 500 + f2 % 500) = b ∧ cntE wk hs (day + f1 % 500) (day + f1 % 500 + f2 % 500) = 0)) (HC2 : Hid (cntV wk hs day (day + f1 % 500 + f2 % 500) = al ∧ cntE wk hs day (day + f1 % 500 + f2 % 500) = 0)) (HF : Hid (decide (hs.length ≤ 500) = true)) (d0 : 0 ≤ day) (d1 : day ≤ 73048) (a0 : 0 ≤ a) (a1 : a ≤ 80000) (b0 : 0 ≤ b) (b1 : b ≤ 80000) (s1 : a + b ≤ al) (s2 : al ≤ a + b) (s3 : al ≤ f1 % 500 + f2 % 500) (HX : Hid (nextV wk hs day = nx ∧ nextE wk hs day = 0)) (HN : Hid (cntV wk hs day nx = 0 ∧ cntE wk hs day nx = 0)) (hm : day < 73048) (HS : Hid (cntV wk hs day (day + 1) = 1 ∧ cntE wk hs day (day + 1) = 0)) (HZ : Hid (bizF wk hs day = true)) :
    Calls Tryd.prog 8 #[.agg (cal wk A hs.length c), .int .i64 day, .int .u16 f1, .int .u16 f2] w fun e w' => e = .returned (.bool true) ∧ Below w.heap.size w w' := by
  have hb0 : Below w.heap.size w (w.alloc (.cells (cal wk A hs.length c) 39)) := (Below.refl _ _).alloc (Nat.le_refl _) _
  have ht0 := HT.out.keep hb0
  have hh0 := HH.out.keep hb0
  have HC := Lib.hid (cal_cells wk A hs.length c w 39)
  clear HT HH
  have HT := Lib.hid ht0
  have HH := Lib.hid hh0
  clear ht0 hh0
  obtain ⟨k0, HC⟩ := forall_and.1 HC.out
  obtain ⟨k1, HC⟩ := forall_and.1 HC
  obtain ⟨k2, HC⟩ := forall_and.1 HC
  obtain ⟨k3, HC⟩ := forall_and.1 HC
  obtain ⟨k4, HC⟩ := forall_and.1 HC
  obtain ⟨k5, HC⟩ := forall_and.1 HC
  obtain ⟨k6, k7⟩ := forall_and.1 HC
  clear HC
  go_enter Tryd.func8, Tryd.ntmps8
  go_wp2_with (first
    | (go_at_call 9; (with_reducible refine (head_any _ (HT.out.keep (by repeat (first | exact Below.refl _ _ | exact Kin.below _ | refine below_alloc ?_ _)))).mono ?_); rintro e w' ⟨rfl, hb⟩; obtain ⟨x, rfl⟩ := Kin.more (W := w.alloc (.cells (cal wk A hs.length c) 39)) (by repeat (first | exact Below.refl _ _ | exact Kin.below _ | refine below_alloc ?_ _)) hb; clear hb)
    | (go_at_call 18; (with_reducible refine (count_val wk A hs c day (day + f1 % 500) a 0 _ HA hl (HH.out.keep (by repeat (first | exact Below.refl _ _ | exact Kin.below _ | refine below_alloc ?_ _)))).mono ?_); rintro e w' ⟨rfl, hb⟩; obtain ⟨x, rfl⟩ := Kin.more (W := w.alloc (.cells (cal wk A hs.length c) 39)) (by repeat (first | exact Below.refl _ _ | exact Kin.below _ | refine below_alloc ?_ _)) hb; clear hb)
    | (go_at_call 18; (with_reducible refine (count_val wk A hs c (day + f1 % 500) (day + f1 % 500 + f2 % 500) b 0 _ HB hl (HH.out.keep (by repeat (first | exact Below.refl _ _ | exact Kin.below _ | refine below_alloc ?_ _)))).mono ?_); rintro e w' ⟨rfl, hb⟩; obtain ⟨x, rfl⟩ := Kin.more (W := w.alloc (.cells (cal wk A hs.length c) 39)) (by repeat (first | exact Below.refl _ _ | exact Kin.below _ | refine below_alloc ?_ _)) hb; clear hb)
    | (go_at_call 18; (with_reducible refine (count_val wk A hs c day (day + f1 % 500 + f2 % 500) al 0 _ HC2 hl (HH.out.keep (by repeat (first | exact Below.refl _ _ | exact Kin.below _ | refine below_alloc ?_ _)))).mono ?_); rintro e w' ⟨rfl, hb⟩; obtain ⟨x, rfl⟩ := Kin.more (W := w.alloc (.cells (cal wk A hs.length c) 39)) (by repeat (first | exact Below.refl _ _ | exact Kin.below _ | refine below_alloc ?_ _)) hb; clear hb)
    | (go_at_call 15; (with_reducible refine (few_val wk A hs c true _ HF).mono ?_); rintro e w' ⟨rfl, hb⟩; obtain ⟨x, rfl⟩ := Kin.more (W := w.alloc (.cells (cal wk A hs.length c) 39)) (by repeat (first | exact Below.refl _ _ | exact Kin.below _ | refine below_alloc ?_ _)) hb; clear hb)
    | (go_at_call 14; (with_reducible refine (next_val wk A hs c day nx 0 _ HX hl (HH.out.keep (by repeat (first | exact Below.refl _ _ | exact Kin.below _ | refine below_alloc ?_ _)))).mono ?_); rintro e w' ⟨rfl, hb⟩; obtain ⟨x, rfl⟩ := Kin.more (W := w.alloc (.cells (cal wk A hs.length c) 39)) (by repeat (first | exact Below.refl _ _ | exact Kin.below _ | refine below_alloc ?_ _)) hb; clear hb)
    | (go_at_call 18; (with_reducible refine (count_val wk A hs c day nx 0 0 _ HN hl (HH.out.keep (by repeat (first | exact Below.refl _ _ | exact Kin.below _ | refine below_alloc ?_ _)))).mono ?_); rintro e w' ⟨rfl, hb⟩; obtain ⟨x, rfl⟩ := Kin.more (W := w.alloc (.cells (cal wk A hs.length c) 39)) (by repeat (first | exact Below.refl _ _ | exact Kin.below _ | refine below_alloc ?_ _)) hb; clear hb)
    | (go_at_call 18; (with_reducible refine (count_val wk A hs c day (day + 1) 1 0 _ HS hl (HH.out.keep (by repeat (first | exact Below.refl _ _ | exact Kin.below _ | refine below_alloc ?_ _)))).mono ?_); rintro e w' ⟨rfl, hb⟩; obtain ⟨x, rfl⟩ := Kin.more (W := w.alloc (.cells (cal wk A hs.length c) 39)) (by repeat (first | exact Below.refl _ _ | exact Kin.below _ | refine below_alloc ?_ _)) hb; clear hb)
    | (go_at_call 16; (with_reducible refine (biz_val wk A hs c day true _ HZ hl (HH.out.keep (by repeat (first | exact Below.refl _ _ | exact Kin.below _ | refine below_alloc ?_ _)))).mono ?_); rintro e w' ⟨rfl, hb⟩; obtain ⟨x, rfl⟩ := Kin.more (W := w.alloc (.cells (cal wk A hs.length c) 39)) (by repeat (first | exact Below.refl _ _ | exact Kin.below _ | refine below_alloc ?_ _)) hb; clear hb))
  go_ret
  exact ⟨rfl, hb0.trans (Below.mono (Kin.below _) hb0.size)⟩

set_option maxRecDepth 100000 in
set_option maxHeartbeats 400000 in
theorem walk_h0_false (wk : Nat → Bool) (A : Option Addr) (hs : List Int) (c : Nat) (day f1 f2 : Int) (a b al nx : Int) (w : World) (hl : hs.length ≤ 9223372036854775807) (HT : Hid (Table w)) (HH : Hid (Ints w A hs)) (l0 : 0 ≤ f1) (l1 : f1 ≤ 65535) (l2 : 0 ≤ f2) (l3 : f2 ≤ 65535) (HA : Hid (cntV wk hs day (day + f1 % 500) = a ∧ cntE wk hs day (day + f1 % 500) = 0)) (HB : Hid (cntV wk hs (day + f1 % 500) (day + f1 % 500 + f2 % 500) = b ∧ cntE wk hs (day + f1 % 500) (day + f1 % 500 + f2 % 500) = 0)) (HC2 : Hid (cntV wk hs day (day + f1 % 500 + f2 % 500) = al ∧ cntE wk hs day (day + f1 % 500 + f2 % 500) = 0)) (HF : Hid (decide (hs.length ≤ 500) = true)) (d0 : 0 ≤ day) (d1 : day ≤ 73048) (a0 : 0 ≤ a) (a1 : a ≤ 80000) (b0 : 0 ≤ b) (b1 : b ≤ 80000) (s1 : a + b ≤ al) (s2 : al ≤ a + b) (s3 : al ≤ f1 % 500 + f2 % 500) (HX : Hid (nextV wk hs day = nx ∧ nextE wk hs day = 0)) (HN : Hid (cntV wk hs day nx = 0 ∧ cntE wk hs day nx = 0)) (hm : day < 73048) (HS : Hid (cntV wk hs day (day + 1) = 0 ∧ cntE wk hs day (day + 1) = 0)) (HZ : Hid (bizF wk hs day = false)) :
    Calls Tryd.prog 8 #[.agg (cal wk A hs.length c), .int .i64 day, .int .u16 f1, .int .u16 f2] w fun e w' => e = .returned (.bool true) ∧ Below w.heap.size w w' := by
  have hb0 : Below w.heap.size w (w.alloc (.cells (cal wk A hs.length c) 39)) := (Below.refl _ _).alloc (Nat.le_refl _) _
  have ht0 := HT.out.keep hb0
  have hh0 := HH.out.keep hb0
  have HC := Lib.hid (cal_cells wk A hs.length c w 39)
  clear HT HH
  have HT := Lib.hid ht0
  have HH := Lib.hid hh0
  clear ht0 hh0
  obtain ⟨k0, HC⟩ := forall_and.1 HC.out
  obtain ⟨k1, HC⟩ := forall_and.1 HC
  obtain ⟨k2, HC⟩ := forall_and.1 HC
  obtain ⟨k3, HC⟩ := forall_and.1 HC
  obtain ⟨k4, HC⟩ := forall_and.1 HC
  obtain ⟨k5, HC⟩ := forall_and.1 HC
  obtain ⟨k6, k7⟩ := forall_and.1 HC
  clear HC
  go_enter Tryd.func8, Tryd.ntmps8
  go_wp2_with (first
    | (go_at_call 9; (with_reducible refine (head_any _ (HT.out.keep (by repeat (first | exact Below.refl _ _ | exact Kin.below _ | refine below_alloc ?_ _)))).mono ?_); rintro e w' ⟨rfl, hb⟩; obtain ⟨x, rfl⟩ := Kin.more (W := w.alloc (.cells (cal wk A hs.length c) 39)) (by repeat (first | exact Below.refl _ _ | exact Kin.below _ | refine below_alloc ?_ _)) hb; clear hb)
    | (go_at_call 18; (with_reducible refine (count_val wk A hs c day (day + f1 % 500) a 0 _ HA hl (HH.out.keep (by repeat (first | exact Below.refl _ _ | exact Kin.below _ | refine below_alloc ?_ _)))).mono ?_); rintro e w' ⟨rfl, hb⟩; obtain ⟨x, rfl⟩ := Kin.more (W := w.alloc (.cells (cal wk A hs.length c) 39)) (by repeat (first | exact Below.refl _ _ | exact Kin.below _ | refine below_alloc ?_ _)) hb; clear hb)
    | (go_at_call 18; (with_reducible refine (count_val wk A hs c (day + f1 % 500) (day + f1 % 500 + f2 % 500) b 0 _ HB hl (HH.out.keep (by repeat (first | exact Below.refl _ _ | exact Kin.below _ | refine below_alloc ?_ _)))).mono ?_); rintro e w' ⟨rfl, hb⟩; obtain ⟨x, rfl⟩ := Kin.more (W := w.alloc (.cells (cal wk A hs.length c) 39)) (by repeat (first | exact Below.refl _ _ | exact Kin.below _ | refine below_alloc ?_ _)) hb; clear hb)
    | (go_at_call 18; (with_reducible refine (count_val wk A hs c day (day + f1 % 500 + f2 % 500) al 0 _ HC2 hl (HH.out.keep (by repeat (first | exact Below.refl _ _ | exact Kin.below _ | refine below_alloc ?_ _)))).mono ?_); rintro e w' ⟨rfl, hb⟩; obtain ⟨x, rfl⟩ := Kin.more (W := w.alloc (.cells (cal wk A hs.length c) 39)) (by repeat (first | exact Below.refl _ _ | exact Kin.below _ | refine below_alloc ?_ _)) hb; clear hb)
    | (go_at_call 15; (with_reducible refine (few_val wk A hs c true _ HF).mono ?_); rintro e w' ⟨rfl, hb⟩; obtain ⟨x, rfl⟩ := Kin.more (W := w.alloc (.cells (cal wk A hs.length c) 39)) (by repeat (first | exact Below.refl _ _ | exact Kin.below _ | refine below_alloc ?_ _)) hb; clear hb)
    | (go_at_call 14; (with_reducible refine (next_val wk A hs c day nx 0 _ HX hl (HH.out.keep (by repeat (first | exact Below.refl _ _ | exact Kin.below _ | refine below_alloc ?_ _)))).mono ?_); rintro e w' ⟨rfl, hb⟩; obtain ⟨x, rfl⟩ := Kin.more (W := w.alloc (.cells (cal wk A hs.length c) 39)) (by repeat (first | exact Below.refl _ _ | exact Kin.below _ | refine below_alloc ?_ _)) hb; clear hb)
    | (go_at_call 18; (with_reducible refine (count_val wk A hs c day nx 0 0 _ HN hl (HH.out.keep (by repeat (first | exact Below.refl _ _ | exact Kin.below _ | refine below_alloc ?_ _)))).mono ?_); rintro e w' ⟨rfl, hb⟩; obtain ⟨x, rfl⟩ := Kin.more (W := w.alloc (.cells (cal wk A hs.length c) 39)) (by repeat (first | exact Below.refl _ _ | exact Kin.below _ | refine below_alloc ?_ _)) hb; clear hb)
    | (go_at_call 18; (with_reducible refine (count_val wk A hs c day (day + 1) 0 0 _ HS hl (HH.out.keep (by repeat (first | exact Below.refl _ _ | exact Kin.below _ | refine below_alloc ?_ _)))).mono ?_); rintro e w' ⟨rfl, hb⟩; obtain ⟨x, rfl⟩ := Kin.more (W := w.alloc (.cells (cal wk A hs.length c) 39)) (by repeat (first | exact Below.refl _ _ | exact Kin.below _ | refine below_alloc ?_ _)) hb; clear hb)
    | (go_at_call 16; (with_reducible refine (biz_val wk A hs c day false _ HZ hl (HH.out.keep (by repeat (first | exact Below.refl _ _ | exact Kin.below _ | refine below_alloc ?_ _)))).mono ?_); rintro e w' ⟨rfl, hb⟩; obtain ⟨x, rfl⟩ := Kin.more (W := w.alloc (.cells (cal wk A hs.length c) 39)) (by repeat (first | exact Below.refl _ _ | exact Kin.below _ | refine below_alloc ?_ _)) hb; clear hb))
  go_ret
  exact ⟨rfl, hb0.trans (Below.mono (Kin.below _) hb0.size)⟩

set_option maxRecDepth 100000 in
set_option maxHeartbeats 400000 in
theorem walk_h1_max (wk : Nat → Bool) (A : Option Addr) (hs : List Int) (c : Nat) (day f1 f2 : Int) (a b al nx h : Int) (w : World) (hl : hs.length ≤ 9223372036854775807) (HT : Hid (Table w)) (HH : Hid (Ints w A hs)) (l0 : 0 ≤ f1) (l1 : f1 ≤ 65535) (l2 : 0 ≤ f2) (l3 : f2 ≤ 65535) (HA : Hid (cntV wk hs day (day + f1 % 500) = a ∧ cntE wk hs day (day + f1 % 500) = 0)) (HB : Hid (cntV wk hs (day + f1 % 500) (day + f1 % 500 + f2 % 500) = b ∧ cntE wk hs (day + f1 % 500) (day + f1 % 500 + f2 % 500) = 0)) (HC2 : Hid (cntV wk hs day (day + f1 % 500 + f2 % 500) = al ∧ cntE wk hs day (day + f1 % 500 + f2 % 500) = 0)) (HF : Hid (decide (hs.length ≤ 500) = true)) (d0 : 0 ≤ day) (d1 : day ≤ 73048) (a0 : 0 ≤ a) (a1 : a ≤ 80000) (b0 : 0 ≤ b) (b1 : b ≤ 80000) (s1 : a + b ≤ al) (s2 : al ≤ a + b) (s3 : al ≤ f1 % 500 + f2 % 500) (HX : Hid (nextV wk hs day = nx ∧ nextE wk hs day = h)) (hh : ¬ h = 0) (hm : 73048 ≤ day) :
    Calls Tryd.prog 8 #[.agg (cal wk A hs.length c), .int .i64 day, .int .u16 f1, .int .u16 f2] w fun e w' => e = .returned (.bool true) ∧ Below w.heap.size w w' := by
  have hb0 : Below w.heap.size w (w.alloc (.cells (cal wk A hs.length c) 39)) := (Below.refl _ _).alloc (Nat.le_refl _) _
  have ht0 := HT.out.keep hb0
  have hh0 := HH.out.keep hb0
  have HC := Lib.hid (cal_cells wk A hs.length c w 39)
  clear HT HH
  have HT := Lib.hid ht0
  have HH := Lib.hid hh0
  clear ht0 hh0
  obtain ⟨k0, HC⟩ := forall_and.1 HC.out
  obtain ⟨k1, HC⟩ := forall_and.1 HC
  obtain ⟨k2, HC⟩ := forall_and.1 HC
  obtain ⟨k3, HC⟩ := forall_and.1 HC
  obtain ⟨k4, HC⟩ := forall_and.1 HC
  obtain ⟨k5, HC⟩ := forall_and.1 HC
  obtain ⟨k6, k7⟩ := forall_and.1 HC
  clear HC
  go_enter Tryd.func8, Tryd.ntmps8
  go_wp2_with (first
    | (go_at_call 9; (with_reducible refine (head_any _ (HT.out.keep (by repeat (first | exact Below.refl _ _ | exact Kin.below _ | refine below_alloc ?_ _)))).mono ?_); rintro e w' ⟨rfl, hb⟩; obtain ⟨x, rfl⟩ := Kin.more (W := w.alloc (.cells (cal wk A hs.length c) 39)) (by repeat (first | exact Below.refl _ _ | exact Kin.below _ | refine below_alloc ?_ _)) hb; clear hb)
    | (go_at_call 18; (with_reducible refine (count_val wk A hs c day (day + f1 % 500) a 0 _ HA hl (HH.out.keep (by repeat (first | exact Below.refl _ _ | exact Kin.below _ | refine below_alloc ?_ _)))).mono ?_); rintro e w' ⟨rfl, hb⟩; obtain ⟨x, rfl⟩ := Kin.more (W := w.alloc (.cells (cal wk A hs.length c) 39)) (by repeat (first | exact Below.refl _ _ | exact Kin.below _ | refine below_alloc ?_ _)) hb; clear hb)
    | (go_at_call 18; (with_reducible refine (count_val wk A hs c (day + f1 % 500) (day + f1 % 500 + f2 % 500) b 0 _ HB hl (HH.out.keep (by repeat (first | exact Below.refl _ _ | exact Kin.below _ | refine below_alloc ?_ _)))).mono ?_); rintro e w' ⟨rfl, hb⟩; obtain ⟨x, rfl⟩ := Kin.more (W := w.alloc (.cells (cal wk A hs.length c) 39)) (by repeat (first | exact Below.refl _ _ | exact Kin.below _ | refine below_alloc ?_ _)) hb; clear hb)
    | (go_at_call 18; (with_reducible refine (count_val wk A hs c day (day + f1 % 500 + f2 % 500) al 0 _ HC2 hl (HH.out.keep (by repeat (first | exact Below.refl _ _ | exact Kin.below _ | refine below_alloc ?_ _)))).mono ?_); rintro e w' ⟨rfl, hb⟩; obtain ⟨x, rfl⟩ := Kin.more (W := w.alloc (.cells (cal wk A hs.length c) 39)) (by repeat (first | exact Below.refl _ _ | exact Kin.below _ | refine below_alloc ?_ _)) hb; clear hb)
    | (go_at_call 15; (with_reducible refine (few_val wk A hs c true _ HF).mono ?_); rintro e w' ⟨rfl, hb⟩; obtain ⟨x, rfl⟩ := Kin.more (W := w.alloc (.cells (cal wk A hs.length c) 39)) (by repeat (first | exact Below.refl _ _ | exact Kin.below _ | refine below_alloc ?_ _)) hb; clear hb)
    | (go_at_call 14; (with_reducible refine (next_val wk A hs c day nx h _ HX hl (HH.out.keep (by repeat (first | exact Below.refl _ _ | exact Kin.below _ | refine below_alloc ?_ _)))).mono ?_); rintro e w' ⟨rfl, hb⟩; obtain ⟨x, rfl⟩ := Kin.more (W := w.alloc (.cells (cal wk A hs.length c) 39)) (by repeat (first | exact Below.refl _ _ | exact Kin.below _ | refine below_alloc ?_ _)) hb; clear hb))
  go_ret
  exact ⟨rfl, hb0.trans (Below.mono (Kin.below _) hb0.size)⟩

set_option maxRecDepth 100000 in
set_option maxHeartbeats 400000 in
theorem walk_h1_true (wk : Nat → Bool) (A : Option Addr) (hs : List Int) (c : Nat) (day f1 f2 : Int) (a b al nx h : Int) (w : World) (hl : hs.length ≤ 9223372036854775807) (HT : Hid (Table w)) (HH : Hid (Ints w A hs)) (l0 : 0 ≤ f1) (l1 : f1 ≤ 65535) (l2 : 0 ≤ f2) (l3 : f2 ≤ 65535) (HA : Hid (cntV wk hs day (day + f1 % 500) = a ∧ cntE wk hs day (day + f1 % 500) = 0)) (HB : Hid (cntV wk hs (day + f1 % 500) (day + f1 % 500 + f2 % 500) = b ∧ cntE wk hs (day + f1 % 500) (day + f1 % 500 + f2 % 500) = 0)) (HC2 : Hid (cntV wk hs day (day + f1 % 500 + f2 % 500) = al ∧ cntE wk hs day (day + f1 % 500 + f2 % 500) = 0)) (HF : Hid (decide (hs.length ≤ 500) = true)) (d0 : 0 ≤ day) (d1 : day ≤ 73048) (a0 : 0 ≤ a) (a1 : a ≤ 80000) (b0 : 0 ≤ b) (b1 : b ≤ 80000) (s1 : a + b ≤ al) (s2 : al ≤ a + b) (s3 : al ≤ f1 % 500 + f2 % 500) (HX : Hid (nextV wk hs day = nx ∧ nextE wk hs day = h)) (hh : ¬ h = 0) (hm : day < 73048) (HS : Hid (cntV wk hs day (day + 1) = 1 ∧ cntE wk hs day (day + 1) = 0)) (HZ : Hid (bizF wk hs day = true)) :
    Calls Tryd.prog 8 #[.agg (cal wk A hs.length c), .int .i64 day, .int .u16 f1, .int .u16 f2] w fun e w' => e = .returned (.bool true) ∧ Below w.heap.size w w' := by
  have hb0 : Below w.heap.size w (w.alloc (.cells (cal wk A hs.length c) 39)) := (Below.refl _ _).alloc (Nat.le_refl _) _
  have ht0 := HT.out.keep hb0
  have hh0 := HH.out.keep hb0
  have HC := Lib.hid (cal_cells wk A hs.length c w 39)
  clear HT HH
  have HT := Lib.hid ht0
  have HH := Lib.hid hh0
  clear ht0 hh0
  obtain ⟨k0, HC⟩ := forall_and.1 HC.out
  obtain ⟨k1, HC⟩ := forall_and.1 HC
  obtain ⟨k2, HC⟩ := forall_and.1 HC
  obtain ⟨k3, HC⟩ := forall_and.1 HC
  obtain ⟨k4, HC⟩ := forall_and.1 HC
  obtain ⟨k5, HC⟩ := forall_and.1 HC
  obtain ⟨k6, k7⟩ := forall_and.1 HC
  clear HC
  go_enter Tryd.func8, Tryd.ntmps8
  go_wp2_with (first
    | (go_at_call 9; (with_reducible refine (head_any _ (HT.out.keep (by repeat (first | exact Below.refl _ _ | exact Kin.below _ | refine below_alloc ?_ _)))).mono ?_); rintro e w' ⟨rfl, hb⟩; obtain ⟨x, rfl⟩ := Kin.more (W := w.alloc (.cells (cal wk A hs.length c) 39)) (by repeat (first | exact Below.refl _ _ | exact Kin.below _ | refine below_alloc ?_ _)) hb; clear hb)
    | (go_at_call 18; (with_reducible refine (count_val wk A hs c day (day + f1 % 500) a 0 _ HA hl (HH.out.keep (by repeat (first | exact Below.refl _ _ | exact Kin.below _ | refine below_alloc ?_ _)))).mono ?_); rintro e w' ⟨rfl, hb⟩; obtain ⟨x, rfl⟩ := Kin.more (W := w.alloc (.cells (cal wk A hs.length c) 39)) (by repeat (first | exact Below.refl _ _ | exact Kin.below _ | refine below_alloc ?_ _)) hb; clear hb)
    | (go_at_call 18; (with_reducible refine (count_val wk A hs c (day + f1 % 500) (day + f1 % 500 + f2 % 500) b 0 _ HB hl (HH.out.keep (by repeat (first | exact Below.refl _ _ | exact Kin.below _ | refine below_alloc ?_ _)))).mono ?_); rintro e w' ⟨rfl, hb⟩; obtain ⟨x, rfl⟩ := Kin.more (W := w.alloc (.cells (cal wk A hs.length c) 39)) (by repeat (first | exact Below.refl _ _ | exact Kin.below _ | refine below_alloc ?_ _)) hb; clear hb)
    | (go_at_call 18; (with_reducible refine (count_val wk A hs c day (day + f1 % 500 + f2 % 500) al 0 _ HC2 hl (HH.out.keep (by repeat (first | exact Below.refl _ _ | exact Kin.below _ | refine below_alloc ?_ _)))).mono ?_); rintro e w' ⟨rfl, hb⟩; obtain ⟨x, rfl⟩ := Kin.more (W := w.alloc (.cells (cal wk A hs.length c) 39)) (by repeat (first | exact Below.refl _ _ | exact Kin.below _ | refine below_alloc ?_ _)) hb; clear hb)
    | (go_at_call 15; (with_reducible refine (few_val wk A hs c true _ HF).mono ?_); rintro e w' ⟨rfl, hb⟩; obtain ⟨x, rfl⟩ := Kin.more (W := w.alloc (.cells (cal wk A hs.length c) 39)) (by repeat (first | exact Below.refl _ _ | exact Kin.below _ | refine below_alloc ?_ _)) hb; clear hb)
    | (go_at_call 14; (with_reducible refine (next_val wk A hs c day nx h _ HX hl (HH.out.keep (by repeat (first | exact Below.refl _ _ | exact Kin.below _ | refine below_alloc ?_ _)))).mono ?_); rintro e w' ⟨rfl, hb⟩; obtain ⟨x, rfl⟩ := Kin.more (W := w.alloc (.cells (cal wk A hs.length c) 39)) (by repeat (first | exact Below.refl _ _ | exact Kin.below _ | refine below_alloc ?_ _)) hb; clear hb)
    | (go_at_call 18; (with_reducible refine (count_val wk A hs c day (day + 1) 1 0 _ HS hl (HH.out.keep (by repeat (first | exact Below.refl _ _ | exact Kin.below _ | refine below_alloc ?_ _)))).mono ?_); rintro e w' ⟨rfl, hb⟩; obtain ⟨x, rfl⟩ := Kin.more (W := w.alloc (.cells (cal wk A hs.length c) 39)) (by repeat (first | exact Below.refl _ _ | exact Kin.below _ | refine below_alloc ?_ _)) hb; clear hb)
    | (go_at_call 16; (with_reducible refine (biz_val wk A hs c day true _ HZ hl (HH.out.keep (by repeat (first | exact Below.refl _ _ | exact Kin.below _ | refine below_alloc ?_ _)))).mono ?_); rintro e w' ⟨rfl, hb⟩; obtain ⟨x, rfl⟩ := Kin.more (W := w.alloc (.cells (cal wk A hs.length c) 39)) (by repeat (first | exact Below.refl _ _ | exact Kin.below _ | refine below_alloc ?_ _)) hb; clear hb))
  go_ret
  exact ⟨rfl, hb0.trans (Below.mono (Kin.below _) hb0.size)⟩

set_option maxRecDepth 100000 in
set_option maxHeartbeats 400000 in
theorem walk_h1_false (wk : Nat → Bool) (A : Option Addr) (hs : List Int) (c : Nat) (day f1 f2 : Int) (a b al nx h : Int) (w : World) (hl : hs.length ≤ 9223372036854775807) (HT : Hid (Table w)) (HH : Hid (Ints w A hs)) (l0 : 0 ≤ f1) (l1 : f1 ≤ 65535) (l2 : 0 ≤ f2) (l3 : f2 ≤ 65535) (HA : Hid (cntV wk hs day (day + f1 % 500) = a ∧ cntE wk hs day (day + f1 % 500) = 0)) (HB : Hid (cntV wk hs (day + f1 % 500) (day + f1 % 500 + f2 % 500) = b ∧ cntE wk hs (day + f1 % 500) (day + f1 % 500 + f2 % 500) = 0)) (HC2 : Hid (cntV wk hs day (day + f1 % 500 + f2 % 500) = al ∧ cntE wk hs day (day + f1 % 500 + f2 % 500) = 0)) (HF : Hid (decide (hs.length ≤ 500) = true)) (d0 : 0 ≤ day) (d1 : day ≤ 73048) (a0 : 0 ≤ a) (a1 : a ≤ 80000) (b0 : 0 ≤ b) (b1 : b ≤ 80000) (s1 : a + b ≤ al) (s2 : al ≤ a + b) (s3 : al ≤ f1 % 500 + f2 % 500) (HX : Hid (nextV wk hs day = nx ∧ nextE wk hs day = h)) (hh : ¬ h = 0) (hm : day < 73048) (HS : Hid (cntV wk hs day (day + 1) = 0 ∧ cntE wk hs day (day + 1) = 0)) (HZ : Hid (bizF wk hs day = false)) :
    Calls Tryd.prog 8 #[.agg (cal wk A hs.length c), .int .i64 day, .int .u16 f1, .int .u16 f2] w fun e w' => e = .returned (.bool true) ∧ Below w.heap.size w w' := by
  have hb0 : Below w.heap.size w (w.alloc (.cells (cal wk A hs.length c) 39)) := (Below.refl _ _).alloc (Nat.le_refl _) _
  have ht0 := HT.out.keep hb0
  have hh0 := HH.out.keep hb0
  have HC := Lib.hid (cal_cells wk A hs.length c w 39)
  clear HT HH
  have HT := Lib.hid ht0
  have HH := Lib.hid hh0
  clear ht0 hh0
  obtain ⟨k0, HC⟩ := forall_and.1 HC.out
  obtain ⟨k1, HC⟩ := forall_and.1 HC
  obtain ⟨k2, HC⟩ := forall_and.1 HC
  obtain ⟨k3, HC⟩ := forall_and.1 HC
  obtain ⟨k4, HC⟩ := forall_and.1 HC
  obtain ⟨k5, HC⟩ := forall_and.1 HC
  obtain ⟨k6, k7⟩ := forall_and.1 HC
  clear HC
  go_enter Tryd.func8, Tryd.ntmps8
  go_wp2_with (first
    | (go_at_call 9; (with_reducible refine (head_any _ (HT.out.keep (by repeat (first | exact Below.refl _ _ | exact Kin.below _ | refine below_alloc ?_ _)))).mono ?_); rintro e w' ⟨rfl, hb⟩; obtain ⟨x, rfl⟩ := Kin.more (W := w.alloc (.cells (cal wk A hs.length c) 39)) (by repeat (first | exact Below.refl _ _ | exact Kin.below _ | refine below_alloc ?_ _)) hb; clear hb)
    | (go_at_call 18; (with_reducible refine (count_val wk A hs c day (day + f1 % 500) a 0 _ HA hl (HH.out.keep (by repeat (first | exact Below.refl _ _ | exact Kin.below _ | refine below_alloc ?_ _)))).mono ?_); rintro e w' ⟨rfl, hb⟩; obtain ⟨x, rfl⟩ := Kin.more (W := w.alloc (.cells (cal wk A hs.length c) 39)) (by repeat (first | exact Below.refl _ _ | exact Kin.below _ | refine below_alloc ?_ _)) hb; clear hb)
    | (go_at_call 18; (with_reducible refine (count_val wk A hs c (day + f1 % 500) (day + f1 % 500 + f2 % 500) b 0 _ HB hl (HH.out.keep (by repeat (first | exact Below.refl _ _ | exact Kin.below _ | refine below_alloc ?_ _)))).mono ?_); rintro e w' ⟨rfl, hb⟩; obtain ⟨x, rfl⟩ := Kin.more (W := w.alloc (.cells (cal wk A hs.length c) 39)) (by repeat (first | exact Below.refl _ _ | exact Kin.below _ | refine below_alloc ?_ _)) hb; clear hb)
    | (go_at_call 18; (with_reducible refine (count_val wk A hs c day (day + f1 % 500 + f2 % 500) al 0 _ HC2 hl (HH.out.keep (by repeat (first | exact Below.refl _ _ | exact Kin.below _ | refine below_alloc ?_ _)))).mono ?_); rintro e w' ⟨rfl, hb⟩; obtain ⟨x, rfl⟩ := Kin.more (W := w.alloc (.cells (cal wk A hs.length c) 39)) (by repeat (first | exact Below.refl _ _ | exact Kin.below _ | refine below_alloc ?_ _)) hb; clear hb)
    | (go_at_call 15; (with_reducible refine (few_val wk A hs c true _ HF).mono ?_); rintro e w' ⟨rfl, hb⟩; obtain ⟨x, rfl⟩ := Kin.more (W := w.alloc (.cells (cal wk A hs.length c) 39)) (by repeat (first | exact Below.refl _ _ | exact Kin.below _ | refine below_alloc ?_ _)) hb; clear hb)
    | (go_at_call 14; (with_reducible refine (next_val wk A hs c day nx h _ HX hl (HH.out.keep (by repeat (first | exact Below.refl _ _ | exact Kin.below _ | refine below_alloc ?_ _)))).mono ?_); rintro e w' ⟨rfl, hb⟩; obtain ⟨x, rfl⟩ := Kin.more (W := w.alloc (.cells (cal wk A hs.length c) 39)) (by repeat (first | exact Below.refl _ _ | exact Kin.below _ | refine below_alloc ?_ _)) hb; clear hb)
    | (go_at_call 18; (with_reducible refine (count_val wk A hs c day (day + 1) 0 0 _ HS hl (HH.out.keep (by repeat (first | exact Below.refl _ _ | exact Kin.below _ | refine below_alloc ?_ _)))).mono ?_); rintro e w' ⟨rfl, hb⟩; obtain ⟨x, rfl⟩ := Kin.more (W := w.alloc (.cells (cal wk A hs.length c) 39)) (by repeat (first | exact Below.refl _ _ | exact Kin.below _ | refine below_alloc ?_ _)) hb; clear hb)
    | (go_at_call 16; (with_reducible refine (biz_val wk A hs c day false _ HZ hl (HH.out.keep (by repeat (first | exact Below.refl _ _ | exact Kin.below _ | refine below_alloc ?_ _)))).mono ?_); rintro e w' ⟨rfl, hb⟩; obtain ⟨x, rfl⟩ := Kin.more (W := w.alloc (.cells (cal wk A hs.length c) 39)) (by repeat (first | exact Below.refl _ _ | exact Kin.below _ | refine below_alloc ?_ _)) hb; clear hb))
  go_ret
  exact ⟨rfl, hb0.trans (Below.mono (Kin.below _) hb0.size)⟩

end Go.Proofs.YthnjbcdfcpchnaaDoor.dateCount
