/- The walks of DateInverse. -/
import Derived.Test.YthnjbcdfcpchnaaDoorDateHead
namespace Go.Proofs.YthnjbcdfcpchnaaDoor.dateInverse
open Go.RowKit Go.Shelf
set_option maxRecDepth 100000 in
set_option maxHeartbeats 400000 in
theorem walk_ok_lo (y0 m0 d0 n0 : Int) (O0 : Hid (Cal.okB y0 m0 d0 = true)) (N0 : Hid (Cal.num y0 m0 d0 = n0)) (n00 : 0 ≤ n0) (n01 : n0 ≤ 73048) (day : Int) (w : World) (hd : day < 0) (HT : Hid (Table w)) :
    Calls Tryd.prog 3 #[.agg #[.int .i64 y0, .int .i64 m0, .int .i64 d0], .int .i64 day] w fun e w' => e = .returned (.bool true) ∧ Below w.heap.size w w' := by
  have hb0 : Below w.heap.size w (w.alloc (.cells #[.int .i64 y0, .int .i64 m0, .int .i64 d0] 23)) := (Below.refl _ _).alloc (Nat.le_refl _) _
  have ht0 := HT.out.keep hb0
  have c0 : (w.alloc (.cells #[.int .i64 y0, .int .i64 m0, .int .i64 d0] 23)).cell? ⟨w.heap.size, 0, none⟩ = some (.int .i64 y0) := by go_simp
  have c1 : (w.alloc (.cells #[.int .i64 y0, .int .i64 m0, .int .i64 d0] 23)).cell? ⟨w.heap.size, 1, none⟩ = some (.int .i64 m0) := by go_simp
  have c2 : (w.alloc (.cells #[.int .i64 y0, .int .i64 m0, .int .i64 d0] 23)).cell? ⟨w.heap.size, 2, none⟩ = some (.int .i64 d0) := by go_simp
  go_enter Tryd.func3, Tryd.ntmps3
  go_wp2_with fail
  generalize w.alloc (.cells #[.int .i64 y0, .int .i64 m0, .int .i64 d0] 23) = W0 at *
  clear HT
  have HT := Lib.hid ht0
  have k0 := fun x : Kin W0 => x.cell c0
  have k1 := fun x : Kin W0 => x.cell c1
  have k2 := fun x : Kin W0 => x.cell c2
  have a0 := fun (x : Kin W0) o => Kin.allocCell c0 x o
  have a1 := fun (x : Kin W0) o => Kin.allocCell c1 x o
  have a2 := fun (x : Kin W0) o => Kin.allocCell c2 x o
  clear ht0 c0 c1 c2
  go_wp2_with (first
    | (go_at_call 9; (with_reducible refine (head_any _ (HT.out.keep (by repeat (first | exact Below.refl _ _ | exact Kin.below _ | refine below_alloc ?_ _)))).mono ?_); rintro e w' ⟨rfl, hb⟩; obtain ⟨x, rfl⟩ := Kin.more (W := W0) (by repeat (first | exact Below.refl _ _ | exact Kin.below _ | refine below_alloc ?_ _)) hb; clear hb)
    | (go_at_call 10; (with_reducible refine (number_is y0 m0 d0 n0 _ O0.out N0.out (HT.out.keep (by repeat (first | exact Below.refl _ _ | exact Kin.below _ | refine below_alloc ?_ _))) (Table.pos (HT.out.keep (by repeat (first | exact Below.refl _ _ | exact Kin.below _ | refine below_alloc ?_ _))))).mono ?_); rintro e w' ⟨rfl, hb⟩; obtain ⟨x, rfl⟩ := Kin.more (W := W0) (by repeat (first | exact Below.refl _ _ | exact Kin.below _ | refine below_alloc ?_ _)) hb; clear hb)
    | (go_at_call 11; (with_reducible refine (civil_at y0 m0 d0 n0 _ O0.out N0.out (HT.out.keep (by repeat (first | exact Below.refl _ _ | exact Kin.below _ | refine below_alloc ?_ _))) (Table.pos (HT.out.keep (by repeat (first | exact Below.refl _ _ | exact Kin.below _ | refine below_alloc ?_ _))))).mono ?_); rintro e w' ⟨rfl, hb⟩; obtain ⟨x, rfl⟩ := Kin.more (W := W0) (by repeat (first | exact Below.refl _ _ | exact Kin.below _ | refine below_alloc ?_ _)) hb; clear hb)
    | (go_at_call 11; (with_reducible refine (civil_no day _ (.inl hd)).mono ?_); rintro e w' ⟨rfl, hb⟩; obtain ⟨x, rfl⟩ := Kin.more (W := W0) (by repeat (first | exact Below.refl _ _ | exact Kin.below _ | refine below_alloc ?_ _)) hb; clear hb))
  go_ret
  exact ⟨rfl, hb0.trans (Below.mono (below_alloc (Kin.below _) _) hb0.size)⟩

set_option maxRecDepth 100000 in
set_option maxHeartbeats 400000 in
theorem walk_ok_hi (y0 m0 d0 n0 : Int) (O0 : Hid (Cal.okB y0 m0 d0 = true)) (N0 : Hid (Cal.num y0 m0 d0 = n0)) (n00 : 0 ≤ n0) (n01 : n0 ≤ 73048) (day : Int) (w : World) (hd : 73048 < day) (HT : Hid (Table w)) :
    Calls Tryd.prog 3 #[.agg #[.int .i64 y0, .int .i64 m0, .int .i64 d0], .int .i64 day] w fun e w' => e = .returned (.bool true) ∧ Below w.heap.size w w' := by
  have hb0 : Below w.heap.size w (w.alloc (.cells #[.int .i64 y0, .int .i64 m0, .int .i64 d0] 23)) := (Below.refl _ _).alloc (Nat.le_refl _) _
  have ht0 := HT.out.keep hb0
  have c0 : (w.alloc (.cells #[.int .i64 y0, .int .i64 m0, .int .i64 d0] 23)).cell? ⟨w.heap.size, 0, none⟩ = some (.int .i64 y0) := by go_simp
  have c1 : (w.alloc (.cells #[.int .i64 y0, .int .i64 m0, .int .i64 d0] 23)).cell? ⟨w.heap.size, 1, none⟩ = some (.int .i64 m0) := by go_simp
  have c2 : (w.alloc (.cells #[.int .i64 y0, .int .i64 m0, .int .i64 d0] 23)).cell? ⟨w.heap.size, 2, none⟩ = some (.int .i64 d0) := by go_simp
  go_enter Tryd.func3, Tryd.ntmps3
  go_wp2_with fail
  generalize w.alloc (.cells #[.int .i64 y0, .int .i64 m0, .int .i64 d0] 23) = W0 at *
  clear HT
  have HT := Lib.hid ht0
  have k0 := fun x : Kin W0 => x.cell c0
  have k1 := fun x : Kin W0 => x.cell c1
  have k2 := fun x : Kin W0 => x.cell c2
  have a0 := fun (x : Kin W0) o => Kin.allocCell c0 x o
  have a1 := fun (x : Kin W0) o => Kin.allocCell c1 x o
  have a2 := fun (x : Kin W0) o => Kin.allocCell c2 x o
  clear ht0 c0 c1 c2
  go_wp2_with (first
    | (go_at_call 9; (with_reducible refine (head_any _ (HT.out.keep (by repeat (first | exact Below.refl _ _ | exact Kin.below _ | refine below_alloc ?_ _)))).mono ?_); rintro e w' ⟨rfl, hb⟩; obtain ⟨x, rfl⟩ := Kin.more (W := W0) (by repeat (first | exact Below.refl _ _ | exact Kin.below _ | refine below_alloc ?_ _)) hb; clear hb)
    | (go_at_call 10; (with_reducible refine (number_is y0 m0 d0 n0 _ O0.out N0.out (HT.out.keep (by repeat (first | exact Below.refl _ _ | exact Kin.below _ | refine below_alloc ?_ _))) (Table.pos (HT.out.keep (by repeat (first | exact Below.refl _ _ | exact Kin.below _ | refine below_alloc ?_ _))))).mono ?_); rintro e w' ⟨rfl, hb⟩; obtain ⟨x, rfl⟩ := Kin.more (W := W0) (by repeat (first | exact Below.refl _ _ | exact Kin.below _ | refine below_alloc ?_ _)) hb; clear hb)
    | (go_at_call 11; (with_reducible refine (civil_at y0 m0 d0 n0 _ O0.out N0.out (HT.out.keep (by repeat (first | exact Below.refl _ _ | exact Kin.below _ | refine below_alloc ?_ _))) (Table.pos (HT.out.keep (by repeat (first | exact Below.refl _ _ | exact Kin.below _ | refine below_alloc ?_ _))))).mono ?_); rintro e w' ⟨rfl, hb⟩; obtain ⟨x, rfl⟩ := Kin.more (W := W0) (by repeat (first | exact Below.refl _ _ | exact Kin.below _ | refine below_alloc ?_ _)) hb; clear hb)
    | (go_at_call 11; (with_reducible refine (civil_no day _ (.inr hd)).mono ?_); rintro e w' ⟨rfl, hb⟩; obtain ⟨x, rfl⟩ := Kin.more (W := W0) (by repeat (first | exact Below.refl _ _ | exact Kin.below _ | refine below_alloc ?_ _)) hb; clear hb))
  go_ret
  exact ⟨rfl, hb0.trans (Below.mono (below_alloc (Kin.below _) _) hb0.size)⟩

set_option maxRecDepth 100000 in
set_option maxHeartbeats 400000 in
theorem walk_ok_max (y0 m0 d0 n0 : Int) (O0 : Hid (Cal.okB y0 m0 d0 = true)) (N0 : Hid (Cal.num y0 m0 d0 = n0)) (n00 : 0 ≤ n0) (n01 : n0 ≤ 73048) (w : World) (hN : Hid (Cal.num 2189 12 31 = 73048)) (O1 : Hid (Cal.okB 2189 12 31 = true)) (HT : Hid (Table w)) :
    Calls Tryd.prog 3 #[.agg #[.int .i64 y0, .int .i64 m0, .int .i64 d0], .int .i64 73048] w fun e w' => e = .returned (.bool true) ∧ Below w.heap.size w w' := by
  have hb0 : Below w.heap.size w (w.alloc (.cells #[.int .i64 y0, .int .i64 m0, .int .i64 d0] 23)) := (Below.refl _ _).alloc (Nat.le_refl _) _
  have ht0 := HT.out.keep hb0
  have c0 : (w.alloc (.cells #[.int .i64 y0, .int .i64 m0, .int .i64 d0] 23)).cell? ⟨w.heap.size, 0, none⟩ = some (.int .i64 y0) := by go_simp
  have c1 : (w.alloc (.cells #[.int .i64 y0, .int .i64 m0, .int .i64 d0] 23)).cell? ⟨w.heap.size, 1, none⟩ = some (.int .i64 m0) := by go_simp
  have c2 : (w.alloc (.cells #[.int .i64 y0, .int .i64 m0, .int .i64 d0] 23)).cell? ⟨w.heap.size, 2, none⟩ = some (.int .i64 d0) := by go_simp
  go_enter Tryd.func3, Tryd.ntmps3
  go_wp2_with fail
  generalize w.alloc (.cells #[.int .i64 y0, .int .i64 m0, .int .i64 d0] 23) = W0 at *
  clear HT
  have HT := Lib.hid ht0
  have k0 := fun x : Kin W0 => x.cell c0
  have k1 := fun x : Kin W0 => x.cell c1
  have k2 := fun x : Kin W0 => x.cell c2
  have a0 := fun (x : Kin W0) o => Kin.allocCell c0 x o
  have a1 := fun (x : Kin W0) o => Kin.allocCell c1 x o
  have a2 := fun (x : Kin W0) o => Kin.allocCell c2 x o
  clear ht0 c0 c1 c2
  go_wp2_with (first
    | (go_at_call 9; (with_reducible refine (head_any _ (HT.out.keep (by repeat (first | exact Below.refl _ _ | exact Kin.below _ | refine below_alloc ?_ _)))).mono ?_); rintro e w' ⟨rfl, hb⟩; obtain ⟨x, rfl⟩ := Kin.more (W := W0) (by repeat (first | exact Below.refl _ _ | exact Kin.below _ | refine below_alloc ?_ _)) hb; clear hb)
    | (go_at_call 10; (with_reducible refine (number_is y0 m0 d0 n0 _ O0.out N0.out (HT.out.keep (by repeat (first | exact Below.refl _ _ | exact Kin.below _ | refine below_alloc ?_ _))) (Table.pos (HT.out.keep (by repeat (first | exact Below.refl _ _ | exact Kin.below _ | refine below_alloc ?_ _))))).mono ?_); rintro e w' ⟨rfl, hb⟩; obtain ⟨x, rfl⟩ := Kin.more (W := W0) (by repeat (first | exact Below.refl _ _ | exact Kin.below _ | refine below_alloc ?_ _)) hb; clear hb)
    | (go_at_call 11; (with_reducible refine (civil_at y0 m0 d0 n0 _ O0.out N0.out (HT.out.keep (by repeat (first | exact Below.refl _ _ | exact Kin.below _ | refine below_alloc ?_ _))) (Table.pos (HT.out.keep (by repeat (first | exact Below.refl _ _ | exact Kin.below _ | refine below_alloc ?_ _))))).mono ?_); rintro e w' ⟨rfl, hb⟩; obtain ⟨x, rfl⟩ := Kin.more (W := W0) (by repeat (first | exact Below.refl _ _ | exact Kin.below _ | refine below_alloc ?_ _)) hb; clear hb)
    | (go_at_call 11; (with_reducible refine (civil_at 2189 12 31 73048 _ O1.out hN.out (HT.out.keep (by repeat (first | exact Below.refl _ _ | exact Kin.below _ | refine below_alloc ?_ _))) (Table.pos (HT.out.keep (by repeat (first | exact Below.refl _ _ | exact Kin.below _ | refine below_alloc ?_ _))))).mono ?_); rintro e w' ⟨rfl, hb⟩; obtain ⟨x, rfl⟩ := Kin.more (W := W0) (by repeat (first | exact Below.refl _ _ | exact Kin.below _ | refine below_alloc ?_ _)) hb; clear hb))
  have hb2 : Below W0.heap.size W0 (x.w.alloc (.cells #[.int .i64 2189, .int .i64 12, .int .i64 31] 23)) := x.below.alloc x.below.size _
  have ht2 := HT.out.keep hb2
  have e0 : (x.w.alloc (.cells #[.int .i64 2189, .int .i64 12, .int .i64 31] 23)).cell? ⟨x.w.heap.size, 0, none⟩ = some (.int .i64 2189) := by go_simp
  have e1 : (x.w.alloc (.cells #[.int .i64 2189, .int .i64 12, .int .i64 31] 23)).cell? ⟨x.w.heap.size, 1, none⟩ = some (.int .i64 12) := by go_simp
  have e2 : (x.w.alloc (.cells #[.int .i64 2189, .int .i64 12, .int .i64 31] 23)).cell? ⟨x.w.heap.size, 2, none⟩ = some (.int .i64 31) := by go_simp
  generalize x.w.alloc (.cells #[.int .i64 2189, .int .i64 12, .int .i64 31] 23) = W1 at *
  clear HT
  have HT := Lib.hid ht2
  have m0' := fun x : Kin W1 => x.cell e0
  have m1' := fun x : Kin W1 => x.cell e1
  have m2' := fun x : Kin W1 => x.cell e2
  have l0' := fun (x : Kin W1) o => Kin.allocCell e0 x o
  have l1' := fun (x : Kin W1) o => Kin.allocCell e1 x o
  have l2' := fun (x : Kin W1) o => Kin.allocCell e2 x o
  clear ht2 e0 e1 e2 k0 k1 k2 a0 a1 a2
  go_wp2_with (first
    | (go_at_call 10; (with_reducible refine (number_is 2189 12 31 73048 _ O1.out hN.out (HT.out.keep (by repeat (first | exact Below.refl _ _ | exact Kin.below _ | refine below_alloc ?_ _))) (Table.pos (HT.out.keep (by repeat (first | exact Below.refl _ _ | exact Kin.below _ | refine below_alloc ?_ _))))).mono ?_); rintro e w' ⟨rfl, hb⟩; obtain ⟨x, rfl⟩ := Kin.more (W := W1) (by repeat (first | exact Below.refl _ _ | exact Kin.below _ | refine below_alloc ?_ _)) hb; clear hb)
    | (go_at_call 12; (with_reducible refine (weekday_any 73048 _ (by omega) (by omega)).mono ?_); rintro e w' ⟨rfl, rfl⟩))
  go_ret
  exact ⟨rfl, hb0.trans (Below.mono (hb2.trans (Below.mono (Kin.below _) hb2.size)) hb0.size)⟩

set_option maxRecDepth 100000 in
set_option maxHeartbeats 400000 in
theorem walk_ok_same (y0 m0 d0 n0 : Int) (O0 : Hid (Cal.okB y0 m0 d0 = true)) (N0 : Hid (Cal.num y0 m0 d0 = n0)) (n00 : 0 ≤ n0) (n01 : n0 ≤ 73048) (y m d day : Int) (w : World) (O1 : Hid (Cal.okB y m d = true)) (hN : Hid (Cal.num y m d = day)) (d0' : 0 ≤ day) (d1 : day < 73048) (c1 : 1990 ≤ y) (c2 : y ≤ 2189) (c3 : 1 ≤ m) (c4 : m ≤ 12) (c5 : 1 ≤ d) (c6 : d ≤ 31) (O2 : Hid (Cal.okB y m (d + 1) = true)) (N2 : Hid (Cal.num y m (d + 1) = day + 1)) (HT : Hid (Table w)) :
    Calls Tryd.prog 3 #[.agg #[.int .i64 y0, .int .i64 m0, .int .i64 d0], .int .i64 day] w fun e w' => e = .returned (.bool true) ∧ Below w.heap.size w w' := by
  have hb0 : Below w.heap.size w (w.alloc (.cells #[.int .i64 y0, .int .i64 m0, .int .i64 d0] 23)) := (Below.refl _ _).alloc (Nat.le_refl _) _
  have ht0 := HT.out.keep hb0
  have c0 : (w.alloc (.cells #[.int .i64 y0, .int .i64 m0, .int .i64 d0] 23)).cell? ⟨w.heap.size, 0, none⟩ = some (.int .i64 y0) := by go_simp
  have c1 : (w.alloc (.cells #[.int .i64 y0, .int .i64 m0, .int .i64 d0] 23)).cell? ⟨w.heap.size, 1, none⟩ = some (.int .i64 m0) := by go_simp
  have c2 : (w.alloc (.cells #[.int .i64 y0, .int .i64 m0, .int .i64 d0] 23)).cell? ⟨w.heap.size, 2, none⟩ = some (.int .i64 d0) := by go_simp
  go_enter Tryd.func3, Tryd.ntmps3
  go_wp2_with fail
  generalize w.alloc (.cells #[.int .i64 y0, .int .i64 m0, .int .i64 d0] 23) = W0 at *
  clear HT
  have HT := Lib.hid ht0
  have k0 := fun x : Kin W0 => x.cell c0
  have k1 := fun x : Kin W0 => x.cell c1
  have k2 := fun x : Kin W0 => x.cell c2
  have a0 := fun (x : Kin W0) o => Kin.allocCell c0 x o
  have a1 := fun (x : Kin W0) o => Kin.allocCell c1 x o
  have a2 := fun (x : Kin W0) o => Kin.allocCell c2 x o
  clear ht0 c0 c1 c2
  go_wp2_with (first
    | (go_at_call 9; (with_reducible refine (head_any _ (HT.out.keep (by repeat (first | exact Below.refl _ _ | exact Kin.below _ | refine below_alloc ?_ _)))).mono ?_); rintro e w' ⟨rfl, hb⟩; obtain ⟨x, rfl⟩ := Kin.more (W := W0) (by repeat (first | exact Below.refl _ _ | exact Kin.below _ | refine below_alloc ?_ _)) hb; clear hb)
    | (go_at_call 10; (with_reducible refine (number_is y0 m0 d0 n0 _ O0.out N0.out (HT.out.keep (by repeat (first | exact Below.refl _ _ | exact Kin.below _ | refine below_alloc ?_ _))) (Table.pos (HT.out.keep (by repeat (first | exact Below.refl _ _ | exact Kin.below _ | refine below_alloc ?_ _))))).mono ?_); rintro e w' ⟨rfl, hb⟩; obtain ⟨x, rfl⟩ := Kin.more (W := W0) (by repeat (first | exact Below.refl _ _ | exact Kin.below _ | refine below_alloc ?_ _)) hb; clear hb)
    | (go_at_call 11; (with_reducible refine (civil_at y0 m0 d0 n0 _ O0.out N0.out (HT.out.keep (by repeat (first | exact Below.refl _ _ | exact Kin.below _ | refine below_alloc ?_ _))) (Table.pos (HT.out.keep (by repeat (first | exact Below.refl _ _ | exact Kin.below _ | refine below_alloc ?_ _))))).mono ?_); rintro e w' ⟨rfl, hb⟩; obtain ⟨x, rfl⟩ := Kin.more (W := W0) (by repeat (first | exact Below.refl _ _ | exact Kin.below _ | refine below_alloc ?_ _)) hb; clear hb)
    | (go_at_call 11; (with_reducible refine (civil_at y m d day _ O1.out hN.out (HT.out.keep (by repeat (first | exact Below.refl _ _ | exact Kin.below _ | refine below_alloc ?_ _))) (Table.pos (HT.out.keep (by repeat (first | exact Below.refl _ _ | exact Kin.below _ | refine below_alloc ?_ _))))).mono ?_); rintro e w' ⟨rfl, hb⟩; obtain ⟨x, rfl⟩ := Kin.more (W := W0) (by repeat (first | exact Below.refl _ _ | exact Kin.below _ | refine below_alloc ?_ _)) hb; clear hb))
  have hb2 : Below W0.heap.size W0 (x.w.alloc (.cells #[.int .i64 y, .int .i64 m, .int .i64 d] 23)) := x.below.alloc x.below.size _
  have ht2 := HT.out.keep hb2
  have e0 : (x.w.alloc (.cells #[.int .i64 y, .int .i64 m, .int .i64 d] 23)).cell? ⟨x.w.heap.size, 0, none⟩ = some (.int .i64 y) := by go_simp
  have e1 : (x.w.alloc (.cells #[.int .i64 y, .int .i64 m, .int .i64 d] 23)).cell? ⟨x.w.heap.size, 1, none⟩ = some (.int .i64 m) := by go_simp
  have e2 : (x.w.alloc (.cells #[.int .i64 y, .int .i64 m, .int .i64 d] 23)).cell? ⟨x.w.heap.size, 2, none⟩ = some (.int .i64 d) := by go_simp
  generalize x.w.alloc (.cells #[.int .i64 y, .int .i64 m, .int .i64 d] 23) = W1 at *
  clear HT
  have HT := Lib.hid ht2
  have m0' := fun x : Kin W1 => x.cell e0
  have m1' := fun x : Kin W1 => x.cell e1
  have m2' := fun x : Kin W1 => x.cell e2
  have l0' := fun (x : Kin W1) o => Kin.allocCell e0 x o
  have l1' := fun (x : Kin W1) o => Kin.allocCell e1 x o
  have l2' := fun (x : Kin W1) o => Kin.allocCell e2 x o
  clear ht2 e0 e1 e2 k0 k1 k2 a0 a1 a2
  go_wp2_with (first
    | (go_at_call 10; (with_reducible refine (number_is y m d day _ O1.out hN.out (HT.out.keep (by repeat (first | exact Below.refl _ _ | exact Kin.below _ | refine below_alloc ?_ _))) (Table.pos (HT.out.keep (by repeat (first | exact Below.refl _ _ | exact Kin.below _ | refine below_alloc ?_ _))))).mono ?_); rintro e w' ⟨rfl, hb⟩; obtain ⟨x, rfl⟩ := Kin.more (W := W1) (by repeat (first | exact Below.refl _ _ | exact Kin.below _ | refine below_alloc ?_ _)) hb; clear hb)
    | (go_at_call 12; (with_reducible refine (weekday_any day _ (by omega) (by omega)).mono ?_); rintro e w' ⟨rfl, rfl⟩)
    | (go_at_call 11; (with_reducible refine (civil_at y m (d + 1) (day + 1) _ O2.out N2.out (HT.out.keep (by repeat (first | exact Below.refl _ _ | exact Kin.below _ | refine below_alloc ?_ _))) (Table.pos (HT.out.keep (by repeat (first | exact Below.refl _ _ | exact Kin.below _ | refine below_alloc ?_ _))))).mono ?_); rintro e w' ⟨rfl, hb⟩; obtain ⟨x, rfl⟩ := Kin.more (W := W1) (by repeat (first | exact Below.refl _ _ | exact Kin.below _ | refine below_alloc ?_ _)) hb; clear hb))
  go_ret
  exact ⟨rfl, hb0.trans (Below.mono (hb2.trans (Below.mono (below_alloc (Kin.below _) _) hb2.size)) hb0.size)⟩

set_option maxRecDepth 100000 in
set_option maxHeartbeats 400000 in
theorem walk_ok_month (y0 m0 d0 n0 : Int) (O0 : Hid (Cal.okB y0 m0 d0 = true)) (N0 : Hid (Cal.num y0 m0 d0 = n0)) (n00 : 0 ≤ n0) (n01 : n0 ≤ 73048) (y m d day : Int) (w : World) (O1 : Hid (Cal.okB y m d = true)) (hN : Hid (Cal.num y m d = day)) (d0' : 0 ≤ day) (d1 : day < 73048) (c1 : 1990 ≤ y) (c2 : y ≤ 2189) (c3 : 1 ≤ m) (c4 : m ≤ 12) (c5 : 1 ≤ d) (c6 : d ≤ 31) (c7 : 28 ≤ d) (O2 : Hid (Cal.okB y (m + 1) 1 = true)) (N2 : Hid (Cal.num y (m + 1) 1 = day + 1)) (HT : Hid (Table w)) :
    Calls Tryd.prog 3 #[.agg #[.int .i64 y0, .int .i64 m0, .int .i64 d0], .int .i64 day] w fun e w' => e = .returned (.bool true) ∧ Below w.heap.size w w' := by
  have hb0 : Below w.heap.size w (w.alloc (.cells #[.int .i64 y0, .int .i64 m0, .int .i64 d0] 23)) := (Below.refl _ _).alloc (Nat.le_refl _) _
  have ht0 := HT.out.keep hb0
  have c0 : (w.alloc (.cells #[.int .i64 y0, .int .i64 m0, .int .i64 d0] 23)).cell? ⟨w.heap.size, 0, none⟩ = some (.int .i64 y0) := by go_simp
  have c1 : (w.alloc (.cells #[.int .i64 y0, .int .i64 m0, .int .i64 d0] 23)).cell? ⟨w.heap.size, 1, none⟩ = some (.int .i64 m0) := by go_simp
  have c2 : (w.alloc (.cells #[.int .i64 y0, .int .i64 m0, .int .i64 d0] 23)).cell? ⟨w.heap.size, 2, none⟩ = some (.int .i64 d0) := by go_simp
  go_enter Tryd.func3, Tryd.ntmps3
  go_wp2_with fail
  generalize w.alloc (.cells #[.int .i64 y0, .int .i64 m0, .int .i64 d0] 23) = W0 at *
  clear HT
  have HT := Lib.hid ht0
  have k0 := fun x : Kin W0 => x.cell c0
  have k1 := fun x : Kin W0 => x.cell c1
  have k2 := fun x : Kin W0 => x.cell c2
  have a0 := fun (x : Kin W0) o => Kin.allocCell c0 x o
  have a1 := fun (x : Kin W0) o => Kin.allocCell c1 x o
  have a2 := fun (x : Kin W0) o => Kin.allocCell c2 x o
  clear ht0 c0 c1 c2
  go_wp2_with (first
    | (go_at_call 9; (with_reducible refine (head_any _ (HT.out.keep (by repeat (first | exact Below.refl _ _ | exact Kin.below _ | refine below_alloc ?_ _)))).mono ?_); rintro e w' ⟨rfl, hb⟩; obtain ⟨x, rfl⟩ := Kin.more (W := W0) (by repeat (first | exact Below.refl _ _ | exact Kin.below _ | refine below_alloc ?_ _)) hb; clear hb)
    | (go_at_call 10; (with_reducible refine (number_is y0 m0 d0 n0 _ O0.out N0.out (HT.out.keep (by repeat (first | exact Below.refl _ _ | exact Kin.below _ | refine below_alloc ?_ _))) (Table.pos (HT.out.keep (by repeat (first | exact Below.refl _ _ | exact Kin.below _ | refine below_alloc ?_ _))))).mono ?_); rintro e w' ⟨rfl, hb⟩; obtain ⟨x, rfl⟩ := Kin.more (W := W0) (by repeat (first | exact Below.refl _ _ | exact Kin.below _ | refine below_alloc ?_ _)) hb; clear hb)
    | (go_at_call 11; (with_reducible refine (civil_at y0 m0 d0 n0 _ O0.out N0.out (HT.out.keep (by repeat (first | exact Below.refl _ _ | exact Kin.below _ | refine below_alloc ?_ _))) (Table.pos (HT.out.keep (by repeat (first | exact Below.refl _ _ | exact Kin.below _ | refine below_alloc ?_ _))))).mono ?_); rintro e w' ⟨rfl, hb⟩; obtain ⟨x, rfl⟩ := Kin.more (W := W0) (by repeat (first | exact Below.refl _ _ | exact Kin.below _ | refine below_alloc ?_ _)) hb; clear hb)
    | (go_at_call 11; (with_reducible refine (civil_at y m d day _ O1.out hN.out (HT.out.keep (by repeat (first | exact Below.refl _ _ | exact Kin.below _ | refine below_alloc ?_ _))) (Table.pos (HT.out.keep (by repeat (first | exact Below.refl _ _ | exact Kin.below _ | refine below_alloc ?_ _))))).mono ?_); rintro e w' ⟨rfl, hb⟩; obtain ⟨x, rfl⟩ := Kin.more (W := W0) (by repeat (first | exact Below.refl _ _ | exact Kin.below _ | refine below_alloc ?_ _)) hb; clear hb))
  have hb2 : Below W0.heap.size W0 (x.w.alloc (.cells #[.int .i64 y, .int .i64 m, .int .i64 d] 23)) := x.below.alloc x.below.size _
  have ht2 := HT.out.keep hb2
  have e0 : (x.w.alloc (.cells #[.int .i64 y, .int .i64 m, .int .i64 d] 23)).cell? ⟨x.w.heap.size, 0, none⟩ = some (.int .i64 y) := by go_simp
  have e1 : (x.w.alloc (.cells #[.int .i64 y, .int .i64 m, .int .i64 d] 23)).cell? ⟨x.w.heap.size, 1, none⟩ = some (.int .i64 m) := by go_simp
  have e2 : (x.w.alloc (.cells #[.int .i64 y, .int .i64 m, .int .i64 d] 23)).cell? ⟨x.w.heap.size, 2, none⟩ = some (.int .i64 d) := by go_simp
  generalize x.w.alloc (.cells #[.int .i64 y, .int .i64 m, .int .i64 d] 23) = W1 at *
  clear HT
  have HT := Lib.hid ht2
  have m0' := fun x : Kin W1 => x.cell e0
  have m1' := fun x : Kin W1 => x.cell e1
  have m2' := fun x : Kin W1 => x.cell e2
  have l0' := fun (x : Kin W1) o => Kin.allocCell e0 x o
  have l1' := fun (x : Kin W1) o => Kin.allocCell e1 x o
  have l2' := fun (x : Kin W1) o => Kin.allocCell e2 x o
  clear ht2 e0 e1 e2 k0 k1 k2 a0 a1 a2
  go_wp2_with (first
    | (go_at_call 10; (with_reducible refine (number_is y m d day _ O1.out hN.out (HT.out.keep (by repeat (first | exact Below.refl _ _ | exact Kin.below _ | refine below_alloc ?_ _))) (Table.pos (HT.out.keep (by repeat (first | exact Below.refl _ _ | exact Kin.below _ | refine below_alloc ?_ _))))).mono ?_); rintro e w' ⟨rfl, hb⟩; obtain ⟨x, rfl⟩ := Kin.more (W := W1) (by repeat (first | exact Below.refl _ _ | exact Kin.below _ | refine below_alloc ?_ _)) hb; clear hb)
    | (go_at_call 12; (with_reducible refine (weekday_any day _ (by omega) (by omega)).mono ?_); rintro e w' ⟨rfl, rfl⟩)
    | (go_at_call 11; (with_reducible refine (civil_at y (m + 1) 1 (day + 1) _ O2.out N2.out (HT.out.keep (by repeat (first | exact Below.refl _ _ | exact Kin.below _ | refine below_alloc ?_ _))) (Table.pos (HT.out.keep (by repeat (first | exact Below.refl _ _ | exact Kin.below _ | refine below_alloc ?_ _))))).mono ?_); rintro e w' ⟨rfl, hb⟩; obtain ⟨x, rfl⟩ := Kin.more (W := W1) (by repeat (first | exact Below.refl _ _ | exact Kin.below _ | refine below_alloc ?_ _)) hb; clear hb))
  go_ret
  exact ⟨rfl, hb0.trans (Below.mono (hb2.trans (Below.mono (below_alloc (Kin.below _) _) hb2.size)) hb0.size)⟩

set_option maxRecDepth 100000 in
set_option maxHeartbeats 400000 in
theorem walk_ok_year (y0 m0 d0 n0 : Int) (O0 : Hid (Cal.okB y0 m0 d0 = true)) (N0 : Hid (Cal.num y0 m0 d0 = n0)) (n00 : 0 ≤ n0) (n01 : n0 ≤ 73048) (y day : Int) (w : World) (O1 : Hid (Cal.okB y 12 31 = true)) (hN : Hid (Cal.num y 12 31 = day)) (d0' : 0 ≤ day) (d1 : day < 73048) (c1 : 1990 ≤ y) (c2 : y ≤ 2189)  (O2 : Hid (Cal.okB (y + 1) 1 1 = true)) (N2 : Hid (Cal.num (y + 1) 1 1 = day + 1)) (HT : Hid (Table w)) :
    Calls Tryd.prog 3 #[.agg #[.int .i64 y0, .int .i64 m0, .int .i64 d0], .int .i64 day] w fun e w' => e = .returned (.bool true) ∧ Below w.heap.size w w' := by
  have hb0 : Below w.heap.size w (w.alloc (.cells #[.int .i64 y0, .int .i64 m0, .int .i64 d0] 23)) := (Below.refl _ _).alloc (Nat.le_refl _) _
  have ht0 := HT.out.keep hb0
  have c0 : (w.alloc (.cells #[.int .i64 y0, .int .i64 m0, .int .i64 d0] 23)).cell? ⟨w.heap.size, 0, none⟩ = some (.int .i64 y0) := by go_simp
  have c1 : (w.alloc (.cells #[.int .i64 y0, .int .i64 m0, .int .i64 d0] 23)).cell? ⟨w.heap.size, 1, none⟩ = some (.int .i64 m0) := by go_simp
  have c2 : (w.alloc (.cells #[.int .i64 y0, .int .i64 m0, .int .i64 d0] 23)).cell? ⟨w.heap.size, 2, none⟩ = some (.int .i64 d0) := by go_simp
  go_enter Tryd.func3, Tryd.ntmps3
  go_wp2_with fail
  generalize w.alloc (.cells #[.int .i64 y0, .int .i64 m0, .int .i64 d0] 23) = W0 at *
  clear HT
  have HT := Lib.hid ht0
  have k0 := fun x : Kin W0 => x.cell c0
  have k1 := fun x : Kin W0 => x.cell c1
  have k2 := fun x : Kin W0 => x.cell c2
  have a0 := fun (x : Kin W0) o => Kin.allocCell c0 x o
  have a1 := fun (x : Kin W0) o => Kin.allocCell c1 x o
  have a2 := fun (x : Kin W0) o => Kin.allocCell c2 x o
  clear ht0 c0 c1 c2
  go_wp2_with (first
    | (go_at_call 9; (with_reducible refine (head_any _ (HT.out.keep (by repeat (first | exact Below.refl _ _ | exact Kin.below _ | refine below_alloc ?_ _)))).mono ?_); rintro e w' ⟨rfl, hb⟩; obtain ⟨x, rfl⟩ := Kin.more (W := W0) (by repeat (first | exact Below.refl _ _ | exact Kin.below _ | refine below_alloc ?_ _)) hb; clear hb)
    | (go_at_call 10; (with_reducible refine (number_is y0 m0 d0 n0 _ O0.out N0.out (HT.out.keep (by repeat (first | exact Below.refl _ _ | exact Kin.below _ | refine below_alloc ?_ _))) (Table.pos (HT.out.keep (by repeat (first | exact Below.refl _ _ | exact Kin.below _ | refine below_alloc ?_ _))))).mono ?_); rintro e w' ⟨rfl, hb⟩; obtain ⟨x, rfl⟩ := Kin.more (W := W0) (by repeat (first | exact Below.refl _ _ | exact Kin.below _ | refine below_alloc ?_ _)) hb; clear hb)
    | (go_at_call 11; (with_reducible refine (civil_at y0 m0 d0 n0 _ O0.out N0.out (HT.out.keep (by repeat (first | exact Below.refl _ _ | exact Kin.below _ | refine below_alloc ?_ _))) (Table.pos (HT.out.keep (by repeat (first | exact Below.refl _ _ | exact Kin.below _ | refine below_alloc ?_ _))))).mono ?_); rintro e w' ⟨rfl, hb⟩; obtain ⟨x, rfl⟩ := Kin.more (W := W0) (by repeat (first | exact Below.refl _ _ | exact Kin.below _ | refine below_alloc ?_ _)) hb; clear hb)
    | (go_at_call 11; (with_reducible refine (civil_at y 12 31 day _ O1.out hN.out (HT.out.keep (by repeat (first | exact Below.refl _ _ | exact Kin.below _ | refine below_alloc ?_ _))) (Table.pos (HT.out.keep (by repeat (first | exact Below.refl _ _ | exact Kin.below _ | refine below_alloc ?_ _))))).mono ?_); rintro e w' ⟨rfl, hb⟩; obtain ⟨x, rfl⟩ := Kin.more (W := W0) (by repeat (first | exact Below.refl _ _ | exact Kin.below _ | refine below_alloc ?_ _)) hb; clear hb))
  have hb2 : Below W0.heap.size W0 (x.w.alloc (.cells #[.int .i64 y, .int .i64 12, .int .i64 31] 23)) := x.below.alloc x.below.size _
  have ht2 := HT.out.keep hb2
  have e0 : (x.w.alloc (.cells #[.int .i64 y, .int .i64 12, .int .i64 31] 23)).cell? ⟨x.w.heap.size, 0, none⟩ = some (.int .i64 y) := by go_simp
  have e1 : (x.w.alloc (.cells #[.int .i64 y, .int .i64 12, .int .i64 31] 23)).cell? ⟨x.w.heap.size, 1, none⟩ = some (.int .i64 12) := by go_simp
  have e2 : (x.w.alloc (.cells #[.int .i64 y, .int .i64 12, .int .i64 31] 23)).cell? ⟨x.w.heap.size, 2, none⟩ = some (.int .i64 31) := by go_simp
  generalize x.w.alloc (.cells #[.int .i64 y, .int .i64 12, .int .i64 31] 23) = W1 at *
  clear HT
  have HT := Lib.hid ht2
  have m0' := fun x : Kin W1 => x.cell e0
  have m1' := fun x : Kin W1 => x.cell e1
  have m2' := fun x : Kin W1 => x.cell e2
  have l0' := fun (x : Kin W1) o => Kin.allocCell e0 x o
  have l1' := fun (x : Kin W1) o => Kin.allocCell e1 x o
  have l2' := fun (x : Kin W1) o => Kin.allocCell e2 x o
  clear ht2 e0 e1 e2 k0 k1 k2 a0 a1 a2
  go_wp2_with (first
    | (go_at_call 10; (with_reducible refine (number_is y 12 31 day _ O1.out hN.out (HT.out.keep (by repeat (first | exact Below.refl _ _ | exact Kin.below _ | refine below_alloc ?_ _))) (Table.pos (HT.out.keep (by repeat (first | exact Below.refl _ _ | exact Kin.below _ | refine below_alloc ?_ _))))).mono ?_); rintro e w' ⟨rfl, hb⟩; obtain ⟨x, rfl⟩ := Kin.more (W := W1) (by repeat (first | exact Below.refl _ _ | exact Kin.below _ | refine below_alloc ?_ _)) hb; clear hb)
    | (go_at_call 12; (with_reducible refine (weekday_any day _ (by omega) (by omega)).mono ?_); rintro e w' ⟨rfl, rfl⟩)
    | (go_at_call 11; (with_reducible refine (civil_at (y + 1) 1 1 (day + 1) _ O2.out N2.out (HT.out.keep (by repeat (first | exact Below.refl _ _ | exact Kin.below _ | refine below_alloc ?_ _))) (Table.pos (HT.out.keep (by repeat (first | exact Below.refl _ _ | exact Kin.below _ | refine below_alloc ?_ _))))).mono ?_); rintro e w' ⟨rfl, hb⟩; obtain ⟨x, rfl⟩ := Kin.more (W := W1) (by repeat (first | exact Below.refl _ _ | exact Kin.below _ | refine below_alloc ?_ _)) hb; clear hb))
  go_ret
  exact ⟨rfl, hb0.trans (Below.mono (hb2.trans (Below.mono (below_alloc (Kin.below _) _) hb2.size)) hb0.size)⟩

end Go.Proofs.YthnjbcdfcpchnaaDoor.dateInverse
