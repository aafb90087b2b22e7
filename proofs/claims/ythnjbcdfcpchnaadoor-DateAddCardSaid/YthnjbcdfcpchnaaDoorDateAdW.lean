/- The walks of DateAdd. -/
import Derived.Test.YthnjbcdfcpchnaaDoorDateV
namespace Go.Proofs.YthnjbcdfcpchnaaDoor.dateAdd
open Go.RowKit Go.Shelf
set_option maxRecDepth 100000 in
set_option maxHeartbeats 400000 in
theorem walk_many (wk : Nat → Bool) (A : Option Addr) (hs : List Int) (c : Nat) (day f1 f2 : Int) (a e : Int) (w : World) (hl : hs.length ≤ 9223372036854775807) (HT : Hid (Table w)) (HH : Hid (Ints w A hs)) (l0 : 0 ≤ f1) (l1 : f1 ≤ 65535) (l2 : 0 ≤ f2) (l3 : f2 ≤ 65535) (HF : Hid (decide (hs.length ≤ 500) = false)) (HA : Hid (addV wk hs day (f1 % 301) = a ∧ addE wk hs day (f1 % 301) = e)) :
    Calls Tryd.prog 7 #[.agg (cal wk A hs.length c), .int .i64 day, .int .u16 f1, .int .u16 f2] w fun e w' => e = .returned (.bool true) ∧ Below w.heap.size w w' := by
  have hb0 : Below w.heap.size w (w.alloc (.cells (cal wk A hs.length c) 39)) := (Below.refl _ _).alloc (Nat.le_refl _) _
  have ht0 := HT.out.keep hb0
  have hh0 := HH.out.keep hb0
  have HC := Lib.hid (cal_cells wk A hs.length c w 39)
  clear HT HH
  have HT := Lib.hid ht0
  have HH := Lib.hid hh0
  clear ht0 hh0
  obtain ⟨k0, HC⟩ := forall_and.1 HC.out
  obtain ⟨k1, HC⟩ := forall_and.1 HC
  obtain ⟨k2, HC⟩ := forall_and.1 HC
  obtain ⟨k3, HC⟩ := forall_and.1 HC
  obtain ⟨k4, HC⟩ := forall_and.1 HC
  obtain ⟨k5, HC⟩ := forall_and.1 HC
  obtain ⟨k6, k7⟩ := forall_and.1 HC
  clear HC
  go_enter Tryd.func7, Tryd.ntmps7
  go_wp2_with (first
    | (go_at_call 9; (with_reducible refine (head_any _ (HT.out.keep (by repeat (first | exact Below.refl _ _ | exact Kin.below _ | refine below_alloc ?_ _)))).mono ?_); rintro e w' ⟨rfl, hb⟩; obtain ⟨x, rfl⟩ := Kin.more (W := w.alloc (.cells (cal wk A hs.length c) 39)) (by repeat (first | exact Below.refl _ _ | exact Kin.below _ | refine below_alloc ?_ _)) hb; clear hb)
    | (go_at_call 17; (with_reducible refine (add_val wk A hs c day (f1 % 301) a e _ HA hl (HH.out.keep (by repeat (first | exact Below.refl _ _ | exact Kin.below _ | refine below_alloc ?_ _)))).mono ?_); rintro e w' ⟨rfl, hb⟩; obtain ⟨x, rfl⟩ := Kin.more (W := w.alloc (.cells (cal wk A hs.length c) 39)) (by repeat (first | exact Below.refl _ _ | exact Kin.below _ | refine below_alloc ?_ _)) hb; clear hb)
    | (go_at_call 15; (with_reducible refine (few_val wk A hs c false _ HF).mono ?_); rintro e w' ⟨rfl, hb⟩; obtain ⟨x, rfl⟩ := Kin.more (W := w.alloc (.cells (cal wk A hs.length c) 39)) (by repeat (first | exact Below.refl _ _ | exact Kin.below _ | refine below_alloc ?_ _)) hb; clear hb))
  go_ret
  exact ⟨rfl, hb0.trans (Below.mono (Kin.below _) hb0.size)⟩

set_option maxRecDepth 100000 in
set_option maxHeartbeats 400000 in
theorem walk_err (wk : Nat → Bool) (A : Option Addr) (hs : List Int) (c : Nat) (day f1 f2 : Int) (a e : Int) (w : World) (hl : hs.length ≤ 9223372036854775807) (HT : Hid (Table w)) (HH : Hid (Ints w A hs)) (l0 : 0 ≤ f1) (l1 : f1 ≤ 65535) (l2 : 0 ≤ f2) (l3 : f2 ≤ 65535) (HF : Hid (decide (hs.length ≤ 500) = true)) (HA : Hid (addV wk hs day (f1 % 301) = a ∧ addE wk hs day (f1 % 301) = e)) (he : (e != 0) = true) (he2 : ¬ e = 0) :
    Calls Tryd.prog 7 #[.agg (cal wk A hs.length c), .int .i64 day, .int .u16 f1, .int .u16 f2] w fun e w' => e = .returned (.bool true) ∧ Below w.heap.size w w' := by
  have hb0 : Below w.heap.size w (w.alloc (.cells (cal wk A hs.length c) 39)) := (Below.refl _ _).alloc (Nat.le_refl _) _
  have ht0 := HT.out.keep hb0
  have hh0 := HH.out.keep hb0
  have HC := Lib.hid (cal_cells wk A hs.length c w 39)
  clear HT HH
  have HT := Lib.hid ht0
  have HH := Lib.hid hh0
  clear ht0 hh0
  obtain ⟨k0, HC⟩ := forall_and.1 HC.out
  obtain ⟨k1, HC⟩ := forall_and.1 HC
  obtain ⟨k2, HC⟩ := forall_and.1 HC
  obtain ⟨k3, HC⟩ := forall_and.1 HC
  obtain ⟨k4, HC⟩ := forall_and.1 HC
  obtain ⟨k5, HC⟩ := forall_and.1 HC
  obtain ⟨k6, k7⟩ := forall_and.1 HC
  clear HC
  go_enter Tryd.func7, Tryd.ntmps7
  go_wp2_with (first
    | (go_at_call 9; (with_reducible refine (head_any _ (HT.out.keep (by repeat (first | exact Below.refl _ _ | exact Kin.below _ | refine below_alloc ?_ _)))).mono ?_); rintro e w' ⟨rfl, hb⟩; obtain ⟨x, rfl⟩ := Kin.more (W := w.alloc (.cells (cal wk A hs.length c) 39)) (by repeat (first | exact Below.refl _ _ | exact Kin.below _ | refine below_alloc ?_ _)) hb; clear hb)
    | (go_at_call 17; (with_reducible refine (add_val wk A hs c day (f1 % 301) a e _ HA hl (HH.out.keep (by repeat (first | exact Below.refl _ _ | exact Kin.below _ | refine below_alloc ?_ _)))).mono ?_); rintro e w' ⟨rfl, hb⟩; obtain ⟨x, rfl⟩ := Kin.more (W := w.alloc (.cells (cal wk A hs.length c) 39)) (by repeat (first | exact Below.refl _ _ | exact Kin.below _ | refine below_alloc ?_ _)) hb; clear hb)
    | (go_at_call 15; (with_reducible refine (few_val wk A hs c true _ HF).mono ?_); rintro e w' ⟨rfl, hb⟩; obtain ⟨x, rfl⟩ := Kin.more (W := w.alloc (.cells (cal wk A hs.length c) 39)) (by repeat (first | exact Below.refl _ _ | exact Kin.below _ | refine below_alloc ?_ _)) hb; clear hb))
  go_ret
  exact ⟨rfl, hb0.trans (Below.mono (Kin.below _) hb0.size)⟩

set_option maxRecDepth 100000 in
set_option maxHeartbeats 400000 in
theorem walk_zero_biz (wk : Nat → Bool) (A : Option Addr) (hs : List Int) (c : Nat) (day f1 f2 : Int) (a b f : Int) (w : World) (hl : hs.length ≤ 9223372036854775807) (HT : Hid (Table w)) (HH : Hid (Ints w A hs)) (l0 : 0 ≤ f1) (l1 : f1 ≤ 65535) (l2 : 0 ≤ f2) (l3 : f2 ≤ 65535) (hz : f1 % 301 ≤ 0) (hz2 : 0 ≤ f1 % 301) (HA : Hid (addV wk hs day (f1 % 301) = a ∧ addE wk hs day (f1 % 301) = 0)) (HB : Hid (addV wk hs a (1 + f2 % 300) = b ∧ addE wk hs a (1 + f2 % 300) = f)) (HC2 : Hid (addV wk hs day (f1 % 301 + (1 + f2 % 300)) = b ∧ addE wk hs day (f1 % 301 + (1 + f2 % 300)) = f)) (HF : Hid (decide (hs.length ≤ 500) = true)) (HZ : Hid (bizF wk hs day = true)) (HX : Hid (nextV wk hs day = a ∧ nextE wk hs day = 0)) :
    Calls Tryd.prog 7 #[.agg (cal wk A hs.length c), .int .i64 day, .int .u16 f1, .int .u16 f2] w fun e w' => e = .returned (.bool true) ∧ Below w.heap.size w w' := by
  have hb0 : Below w.heap.size w (w.alloc (.cells (cal wk A hs.length c) 39)) := (Below.refl _ _).alloc (Nat.le_refl _) _
  have ht0 := HT.out.keep hb0
  have hh0 := HH.out.keep hb0
  have HC := Lib.hid (cal_cells wk A hs.length c w 39)
  clear HT HH
  have HT := Lib.hid ht0
  have HH := Lib.hid hh0
  clear ht0 hh0
  obtain ⟨k0, HC⟩ := forall_and.1 HC.out
  obtain ⟨k1, HC⟩ := forall_and.1 HC
  obtain ⟨k2, HC⟩ := forall_and.1 HC
  obtain ⟨k3, HC⟩ := forall_and.1 HC
  obtain ⟨k4, HC⟩ := forall_and.1 HC
  obtain ⟨k5, HC⟩ := forall_and.1 HC
  obtain ⟨k6, k7⟩ := forall_and.1 HC
  clear HC
  go_enter Tryd.func7, Tryd.ntmps7
  go_wp2_with (first
    | (go_at_call 9; (with_reducible refine (head_any _ (HT.out.keep (by repeat (first | exact Below.refl _ _ | exact Kin.below _ | refine below_alloc ?_ _)))).mono ?_); rintro e w' ⟨rfl, hb⟩; obtain ⟨x, rfl⟩ := Kin.more (W := w.alloc (.cells (cal wk A hs.length c) 39)) (by repeat (first | exact Below.refl _ _ | exact Kin.below _ | refine below_alloc ?_ _)) hb; clear hb)
    | (go_at_call 17; (with_reducible refine (add_val wk A hs c day (f1 % 301) a 0 _ HA hl (HH.out.keep (by repeat (first | exact Below.refl _ _ | exact Kin.below _ | refine below_alloc ?_ _)))).mono ?_); rintro e w' ⟨rfl, hb⟩; obtain ⟨x, rfl⟩ := Kin.more (W := w.alloc (.cells (cal wk A hs.length c) 39)) (by repeat (first | exact Below.refl _ _ | exact Kin.below _ | refine below_alloc ?_ _)) hb; clear hb)
    | (go_at_call 15; (with_reducible refine (few_val wk A hs c true _ HF).mono ?_); rintro e w' ⟨rfl, hb⟩; obtain ⟨x, rfl⟩ := Kin.more (W := w.alloc (.cells (cal wk A hs.length c) 39)) (by repeat (first | exact Below.refl _ _ | exact Kin.below _ | refine below_alloc ?_ _)) hb; clear hb)
    | (go_at_call 17; (with_reducible refine (add_val wk A hs c a (1 + f2 % 300) b f _ HB hl (HH.out.keep (by repeat (first | exact Below.refl _ _ | exact Kin.below _ | refine below_alloc ?_ _)))).mono ?_); rintro e w' ⟨rfl, hb⟩; obtain ⟨x, rfl⟩ := Kin.more (W := w.alloc (.cells (cal wk A hs.length c) 39)) (by repeat (first | exact Below.refl _ _ | exact Kin.below _ | refine below_alloc ?_ _)) hb; clear hb)
    | (go_at_call 17; (with_reducible refine (add_val wk A hs c day (f1 % 301 + (1 + f2 % 300)) b f _ HC2 hl (HH.out.keep (by repeat (first | exact Below.refl _ _ | exact Kin.below _ | refine below_alloc ?_ _)))).mono ?_); rintro e w' ⟨rfl, hb⟩; obtain ⟨x, rfl⟩ := Kin.more (W := w.alloc (.cells (cal wk A hs.length c) 39)) (by repeat (first | exact Below.refl _ _ | exact Kin.below _ | refine below_alloc ?_ _)) hb; clear hb)
    | (go_at_call 16; (with_reducible refine (biz_val wk A hs c day true _ HZ hl (HH.out.keep (by repeat (first | exact Below.refl _ _ | exact Kin.below _ | refine below_alloc ?_ _)))).mono ?_); rintro e w' ⟨rfl, hb⟩; obtain ⟨x, rfl⟩ := Kin.more (W := w.alloc (.cells (cal wk A hs.length c) 39)) (by repeat (first | exact Below.refl _ _ | exact Kin.below _ | refine below_alloc ?_ _)) hb; clear hb)
    | (go_at_call 14; (with_reducible refine (next_val wk A hs c day a 0 _ HX hl (HH.out.keep (by repeat (first | exact Below.refl _ _ | exact Kin.below _ | refine below_alloc ?_ _)))).mono ?_); rintro e w' ⟨rfl, hb⟩; obtain ⟨x, rfl⟩ := Kin.more (W := w.alloc (.cells (cal wk A hs.length c) 39)) (by repeat (first | exact Below.refl _ _ | exact Kin.below _ | refine below_alloc ?_ _)) hb; clear hb))
  go_ret
  exact ⟨rfl, hb0.trans (Below.mono (Kin.below _) hb0.size)⟩

set_option maxRecDepth 100000 in
set_option maxHeartbeats 400000 in
theorem walk_zero_off (wk : Nat → Bool) (A : Option Addr) (hs : List Int) (c : Nat) (day f1 f2 : Int) (a b f b2 f3 : Int) (w : World) (hl : hs.length ≤ 9223372036854775807) (HT : Hid (Table w)) (HH : Hid (Ints w A hs)) (l0 : 0 ≤ f1) (l1 : f1 ≤ 65535) (l2 : 0 ≤ f2) (l3 : f2 ≤ 65535) (hz : f1 % 301 ≤ 0) (hz2 : 0 ≤ f1 % 301) (HA : Hid (addV wk hs day (f1 % 301) = a ∧ addE wk hs day (f1 % 301) = 0)) (HB : Hid (addV wk hs a (1 + f2 % 300) = b ∧ addE wk hs a (1 + f2 % 300) = f)) (HC2 : Hid (addV wk hs day (f1 % 301 + (1 + f2 % 300)) = b2 ∧ addE wk hs day (f1 % 301 + (1 + f2 % 300)) = f3)) (HF : Hid (decide (hs.length ≤ 500) = true)) (HZ : Hid (bizF wk hs day = false)) (HX : Hid (nextV wk hs day = a ∧ nextE wk hs day = 0)) :
    Calls Tryd.prog 7 #[.agg (cal wk A hs.length c), .int .i64 day, .int .u16 f1, .int .u16 f2] w fun e w' => e = .returned (.bool true) ∧ Below w.heap.size w w' := by
  have hb0 : Below w.heap.size w (w.alloc (.cells (cal wk A hs.length c) 39)) := (Below.refl _ _).alloc (Nat.le_refl _) _
  have ht0 := HT.out.keep hb0
  have hh0 := HH.out.keep hb0
  have HC := Lib.hid (cal_cells wk A hs.length c w 39)
  clear HT HH
  have HT := Lib.hid ht0
  have HH := Lib.hid hh0
  clear ht0 hh0
  obtain ⟨k0, HC⟩ := forall_and.1 HC.out
  obtain ⟨k1, HC⟩ := forall_and.1 HC
  obtain ⟨k2, HC⟩ := forall_and.1 HC
  obtain ⟨k3, HC⟩ := forall_and.1 HC
  obtain ⟨k4, HC⟩ := forall_and.1 HC
  obtain ⟨k5, HC⟩ := forall_and.1 HC
  obtain ⟨k6, k7⟩ := forall_and.1 HC
  clear HC
  go_enter Tryd.func7, Tryd.ntmps7
  go_wp2_with (first
    | (go_at_call 9; (with_reducible refine (head_any _ (HT.out.keep (by repeat (first | exact Below.refl _ _ | exact Kin.below _ | refine below_alloc ?_ _)))).mono ?_); rintro e w' ⟨rfl, hb⟩; obtain ⟨x, rfl⟩ := Kin.more (W := w.alloc (.cells (cal wk A hs.length c) 39)) (by repeat (first | exact Below.refl _ _ | exact Kin.below _ | refine below_alloc ?_ _)) hb; clear hb)
    | (go_at_call 17; (with_reducible refine (add_val wk A hs c day (f1 % 301) a 0 _ HA hl (HH.out.keep (by repeat (first | exact Below.refl _ _ | exact Kin.below _ | refine below_alloc ?_ _)))).mono ?_); rintro e w' ⟨rfl, hb⟩; obtain ⟨x, rfl⟩ := Kin.more (W := w.alloc (.cells (cal wk A hs.length c) 39)) (by repeat (first | exact Below.refl _ _ | exact Kin.below _ | refine below_alloc ?_ _)) hb; clear hb)
    | (go_at_call 15; (with_reducible refine (few_val wk A hs c true _ HF).mono ?_); rintro e w' ⟨rfl, hb⟩; obtain ⟨x, rfl⟩ := Kin.more (W := w.alloc (.cells (cal wk A hs.length c) 39)) (by repeat (first | exact Below.refl _ _ | exact Kin.below _ | refine below_alloc ?_ _)) hb; clear hb)
    | (go_at_call 17; (with_reducible refine (add_val wk A hs c a (1 + f2 % 300) b f _ HB hl (HH.out.keep (by repeat (first | exact Below.refl _ _ | exact Kin.below _ | refine below_alloc ?_ _)))).mono ?_); rintro e w' ⟨rfl, hb⟩; obtain ⟨x, rfl⟩ := Kin.more (W := w.alloc (.cells (cal wk A hs.length c) 39)) (by repeat (first | exact Below.refl _ _ | exact Kin.below _ | refine below_alloc ?_ _)) hb; clear hb)
    | (go_at_call 17; (with_reducible refine (add_val wk A hs c day (f1 % 301 + (1 + f2 % 300)) b2 f3 _ HC2 hl (HH.out.keep (by repeat (first | exact Below.refl _ _ | exact Kin.below _ | refine below_alloc ?_ _)))).mono ?_); rintro e w' ⟨rfl, hb⟩; obtain ⟨x, rfl⟩ := Kin.more (W := w.alloc (.cells (cal wk A hs.length c) 39)) (by repeat (first | exact Below.refl _ _ | exact Kin.below _ | refine below_alloc ?_ _)) hb; clear hb)
    | (go_at_call 16; (with_reducible refine (biz_val wk A hs c day false _ HZ hl (HH.out.keep (by repeat (first | exact Below.refl _ _ | exact Kin.below _ | refine below_alloc ?_ _)))).mono ?_); rintro e w' ⟨rfl, hb⟩; obtain ⟨x, rfl⟩ := Kin.more (W := w.alloc (.cells (cal wk A hs.length c) 39)) (by repeat (first | exact Below.refl _ _ | exact Kin.below _ | refine below_alloc ?_ _)) hb; clear hb)
    | (go_at_call 14; (with_reducible refine (next_val wk A hs c day a 0 _ HX hl (HH.out.keep (by repeat (first | exact Below.refl _ _ | exact Kin.below _ | refine below_alloc ?_ _)))).mono ?_); rintro e w' ⟨rfl, hb⟩; obtain ⟨x, rfl⟩ := Kin.more (W := w.alloc (.cells (cal wk A hs.length c) 39)) (by repeat (first | exact Below.refl _ _ | exact Kin.below _ | refine below_alloc ?_ _)) hb; clear hb))
  go_ret
  exact ⟨rfl, hb0.trans (Below.mono (Kin.below _) hb0.size)⟩

set_option maxRecDepth 100000 in
set_option maxHeartbeats 400000 in
theorem walk_some (wk : Nat → Bool) (A : Option Addr) (hs : List Int) (c : Nat) (day f1 f2 : Int) (a b f : Int) (w : World) (hl : hs.length ≤ 9223372036854775807) (HT : Hid (Table w)) (HH : Hid (Ints w A hs)) (l0 : 0 ≤ f1) (l1 : f1 ≤ 65535) (l2 : 0 ≤ f2) (l3 : f2 ≤ 65535) (hz : 1 ≤ f1 % 301) (d0 : 0 ≤ day) (dm : day < 73048) (da : day < a) (HA : Hid (addV wk hs day (f1 % 301) = a ∧ addE wk hs day (f1 % 301) = 0)) (HB : Hid (addV wk hs a (1 + f2 % 300) = b ∧ addE wk hs a (1 + f2 % 300) = f)) (HC2 : Hid (addV wk hs day (f1 % 301 + (1 + f2 % 300)) = b ∧ addE wk hs day (f1 % 301 + (1 + f2 % 300)) = f)) (HF : Hid (decide (hs.length ≤ 500) = true)) (HK : Hid (cntV wk hs (day + 1) a = f1 % 301 - 1 ∧ cntE wk hs (day + 1) a = 0)) (HZ : Hid (bizF wk hs a = true)) :
    Calls Tryd.prog 7 #[.agg (cal wk A hs.length c), .int .i64 day, .int .u16 f1, .int .u16 f2] w fun e w' => e = .returned (.bool true) ∧ Below w.heap.size w w' := by
  have hb0 : Below w.heap.size w (w.alloc (.cells (cal wk A hs.length c) 39)) := (Below.refl _ _).alloc (Nat.le_refl _) _
  have ht0 := HT.out.keep hb0
  have hh0 := HH.out.keep hb0
  have HC := Lib.hid (cal_cells wk A hs.length c w 39)
  clear HT HH
  have HT := Lib.hid ht0
  have HH := Lib.hid hh0
  clear ht0 hh0
  obtain ⟨k0, HC⟩ := forall_and.1 HC.out
  obtain ⟨k1, HC⟩ := forall_and.1 HC
  obtain ⟨k2, HC⟩ := forall_and.1 HC
  obtain ⟨k3, HC⟩ := forall_and.1 HC
  obtain ⟨k4, HC⟩ := forall_and.1 HC
  obtain ⟨k5, HC⟩ := forall_and.1 HC
  obtain ⟨k6, k7⟩ := forall_and.1 HC
  clear HC
  go_enter Tryd.func7, Tryd.ntmps7
  go_wp2_with (first
    | (go_at_call 9; (with_reducible refine (head_any _ (HT.out.keep (by repeat (first | exact Below.refl _ _ | exact Kin.below _ | refine below_alloc ?_ _)))).mono ?_); rintro e w' ⟨rfl, hb⟩; obtain ⟨x, rfl⟩ := Kin.more (W := w.alloc (.cells (cal wk A hs.length c) 39)) (by repeat (first | exact Below.refl _ _ | exact Kin.below _ | refine below_alloc ?_ _)) hb; clear hb)
    | (go_at_call 17; (with_reducible refine (add_val wk A hs c day (f1 % 301) a 0 _ HA hl (HH.out.keep (by repeat (first | exact Below.refl _ _ | exact Kin.below _ | refine below_alloc ?_ _)))).mono ?_); rintro e w' ⟨rfl, hb⟩; obtain ⟨x, rfl⟩ := Kin.more (W := w.alloc (.cells (cal wk A hs.length c) 39)) (by repeat (first | exact Below.refl _ _ | exact Kin.below _ | refine below_alloc ?_ _)) hb; clear hb)
    | (go_at_call 15; (with_reducible refine (few_val wk A hs c true _ HF).mono ?_); rintro e w' ⟨rfl, hb⟩; obtain ⟨x, rfl⟩ := Kin.more (W := w.alloc (.cells (cal wk A hs.length c) 39)) (by repeat (first | exact Below.refl _ _ | exact Kin.below _ | refine below_alloc ?_ _)) hb; clear hb)
    | (go_at_call 17; (with_reducible refine (add_val wk A hs c a (1 + f2 % 300) b f _ HB hl (HH.out.keep (by repeat (first | exact Below.refl _ _ | exact Kin.below _ | refine below_alloc ?_ _)))).mono ?_); rintro e w' ⟨rfl, hb⟩; obtain ⟨x, rfl⟩ := Kin.more (W := w.alloc (.cells (cal wk A hs.length c) 39)) (by repeat (first | exact Below.refl _ _ | exact Kin.below _ | refine below_alloc ?_ _)) hb; clear hb)
    | (go_at_call 17; (with_reducible refine (add_val wk A hs c day (f1 % 301 + (1 + f2 % 300)) b f _ HC2 hl (HH.out.keep (by repeat (first | exact Below.refl _ _ | exact Kin.below _ | refine below_alloc ?_ _)))).mono ?_); rintro e w' ⟨rfl, hb⟩; obtain ⟨x, rfl⟩ := Kin.more (W := w.alloc (.cells (cal wk A hs.length c) 39)) (by repeat (first | exact Below.refl _ _ | exact Kin.below _ | refine below_alloc ?_ _)) hb; clear hb)
    | (go_at_call 18; (with_reducible refine (count_val wk A hs c (day + 1) a (f1 % 301 - 1) 0 _ HK hl (HH.out.keep (by repeat (first | exact Below.refl _ _ | exact Kin.below _ | refine below_alloc ?_ _)))).mono ?_); rintro e w' ⟨rfl, hb⟩; obtain ⟨x, rfl⟩ := Kin.more (W := w.alloc (.cells (cal wk A hs.length c) 39)) (by repeat (first | exact Below.refl _ _ | exact Kin.below _ | refine below_alloc ?_ _)) hb; clear hb)
    | (go_at_call 16; (with_reducible refine (biz_val wk A hs c a true _ HZ hl (HH.out.keep (by repeat (first | exact Below.refl _ _ | exact Kin.below _ | refine below_alloc ?_ _)))).mono ?_); rintro e w' ⟨rfl, hb⟩; obtain ⟨x, rfl⟩ := Kin.more (W := w.alloc (.cells (cal wk A hs.length c) 39)) (by repeat (first | exact Below.refl _ _ | exact Kin.below _ | refine below_alloc ?_ _)) hb; clear hb))
  go_ret
  exact ⟨rfl, hb0.trans (Below.mono (Kin.below _) hb0.size)⟩

end Go.Proofs.YthnjbcdfcpchnaaDoor.dateAdd
