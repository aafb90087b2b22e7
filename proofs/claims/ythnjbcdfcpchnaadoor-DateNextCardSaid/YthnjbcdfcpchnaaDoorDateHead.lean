/- The walk of the laws' own check. -/
import Derived.Test.YthnjbcdfcpchnaaDoorDateH
namespace Go.Proofs.YthnjbcdfcpchnaaDoor
open Go.RowKit Go.Shelf

set_option maxHeartbeats 400000 in
set_option maxRecDepth 100000 in
theorem head_any (w : World) (ht : Table w) :
    Calls Tryd.prog 9 #[] w fun e w' => e = .returned (.bool true) ∧ Below w.heap.size w w' := by
  have HT := Lib.hid ht
  clear ht
  go_enter Tryd.func9, Tryd.ntmps9
  go_wp2_with (first
    | (go_at_call 10; (with_reducible refine (number_is 2000 2 29 3711 _ (by decide) (by decide) (HT.out.keep (by repeat (first | exact Below.refl _ _ | exact Kin.below _ | refine below_alloc ?_ _))) (Table.pos (HT.out.keep (by repeat (first | exact Below.refl _ _ | exact Kin.below _ | refine below_alloc ?_ _))))).mono ?_); rintro e w' ⟨rfl, hb⟩; obtain ⟨x, rfl⟩ := Kin.more (W := w) (by repeat (first | exact Below.refl _ _ | exact Kin.below _ | refine below_alloc ?_ _)) hb; clear hb)
    | (go_at_call 10; (with_reducible refine (number_is 2189 12 31 73048 _ (by decide) (by decide) (HT.out.keep (by repeat (first | exact Below.refl _ _ | exact Kin.below _ | refine below_alloc ?_ _))) (Table.pos (HT.out.keep (by repeat (first | exact Below.refl _ _ | exact Kin.below _ | refine below_alloc ?_ _))))).mono ?_); rintro e w' ⟨rfl, hb⟩; obtain ⟨x, rfl⟩ := Kin.more (W := w) (by repeat (first | exact Below.refl _ _ | exact Kin.below _ | refine below_alloc ?_ _)) hb; clear hb)
    | (go_at_call 11; (with_reducible refine (civil_at 1990 3 1 59 _ (by decide) (by decide) (HT.out.keep (by repeat (first | exact Below.refl _ _ | exact Kin.below _ | refine below_alloc ?_ _))) (Table.pos (HT.out.keep (by repeat (first | exact Below.refl _ _ | exact Kin.below _ | refine below_alloc ?_ _))))).mono ?_); rintro e w' ⟨rfl, hb⟩; obtain ⟨x, rfl⟩ := Kin.more (W := w) (by repeat (first | exact Below.refl _ _ | exact Kin.below _ | refine below_alloc ?_ _)) hb; clear hb)
    | (go_at_call 12; (with_reducible refine (weekday_any 3711 _ (by decide) (by decide)).mono ?_); rintro e w' ⟨rfl, rfl⟩))
  have hb2 : Below w.heap.size w (x.w.alloc (.cells #[.int .i64 1990, .int .i64 3, .int .i64 1] 23)) := x.below.alloc x.below.size _
  have c0 : (x.w.alloc (.cells #[.int .i64 1990, .int .i64 3, .int .i64 1] 23)).cell? ⟨x.w.heap.size, 0, none⟩ = some (.int .i64 1990) := by go_simp
  have c1 : (x.w.alloc (.cells #[.int .i64 1990, .int .i64 3, .int .i64 1] 23)).cell? ⟨x.w.heap.size, 1, none⟩ = some (.int .i64 3) := by go_simp
  have c2 : (x.w.alloc (.cells #[.int .i64 1990, .int .i64 3, .int .i64 1] 23)).cell? ⟨x.w.heap.size, 2, none⟩ = some (.int .i64 1) := by go_simp
  have ht2 : Table (x.w.alloc (.cells #[.int .i64 1990, .int .i64 3, .int .i64 1] 23)) := HT.out.keep hb2
  generalize x.w.alloc (.cells #[.int .i64 1990, .int .i64 3, .int .i64 1] 23) = W1 at *
  clear HT
  have HT := Lib.hid ht2
  have k0 := fun x : Kin W1 => x.cell c0
  have k1 := fun x : Kin W1 => x.cell c1
  have k2 := fun x : Kin W1 => x.cell c2
  clear ht2 c0 c1 c2
  go_wp2_with (first
    | (go_at_call 13; (with_reducible refine (ex_months _ (HT.out.keep (by repeat (first | exact Below.refl _ _ | exact Kin.below _ | refine below_alloc ?_ _))) (Table.pos (HT.out.keep (by repeat (first | exact Below.refl _ _ | exact Kin.below _ | refine below_alloc ?_ _))))).mono ?_); rintro e w' ⟨rfl, hb⟩; obtain ⟨x, rfl⟩ := Kin.more (W := W1) (by repeat (first | exact Below.refl _ _ | exact Kin.below _ | refine below_alloc ?_ _)) hb; clear hb)
    | (go_at_call 13; (with_reducible refine (months_range 1990 1 1 0 (-1) _ (by decide) (by decide) (by decide) (by decide) (by decide) (HT.out.keep (by repeat (first | exact Below.refl _ _ | exact Kin.below _ | refine below_alloc ?_ _))) (Table.pos (HT.out.keep (by repeat (first | exact Below.refl _ _ | exact Kin.below _ | refine below_alloc ?_ _))))).mono ?_); rintro e w' ⟨rfl, hb⟩; obtain ⟨x, rfl⟩ := Kin.more (W := W1) (by repeat (first | exact Below.refl _ _ | exact Kin.below _ | refine below_alloc ?_ _)) hb; clear hb)
    | (go_at_call 19; (with_reducible refine (week_any _ 1 _ 1).mono ?_); rintro e w1 ⟨rfl, hb⟩; (have hI := Lib.hid (Ints.keep (ints_new _ [4] _) hb)); obtain ⟨x, rfl⟩ := Kin.more (W := W1) (by repeat (first | exact Below.refl _ _ | exact Kin.below _ | refine below_alloc ?_ _)) hb; clear hb)
    | (go_at_call 19; (with_reducible refine (week_any _ 2 _ 2).mono ?_); rintro e w1 ⟨rfl, hb⟩; (have hI := Lib.hid (Ints.keep (ints_new _ [4, 4] _) hb)); obtain ⟨x, rfl⟩ := Kin.more (W := W1) (by repeat (first | exact Below.refl _ _ | exact Kin.below _ | refine below_alloc ?_ _)) hb; clear hb)
    | (go_at_call 19; (with_reducible refine (week_any none 0 _ 0).mono ?_); rintro e w1 ⟨rfl, hb⟩; obtain ⟨x, rfl⟩ := Kin.more (W := W1) (by repeat (first | exact Below.refl _ _ | exact Kin.below _ | refine below_alloc ?_ _)) hb; clear hb)
    | (go_at_call 14; (with_reducible refine (ex_next _ _ _ hI.out).mono ?_); rintro e w' ⟨rfl, hb⟩; obtain ⟨x, rfl⟩ := Kin.more (W := W1) (by repeat (first | exact Below.refl _ _ | exact Kin.below _ | refine below_alloc ?_ _)) hb; clear hb hI)
    | (go_at_call 17; (with_reducible refine (ex_add1 _ _ _ hI.out).mono ?_); rintro e w' ⟨rfl, hb⟩; obtain ⟨x, rfl⟩ := Kin.more (W := W1) (by repeat (first | exact Below.refl _ _ | exact Kin.below _ | refine below_alloc ?_ _)) hb; clear hb hI)
    | (go_at_call 17; (with_reducible refine (ex_addf _ _ _ hI.out).mono ?_); rintro e w' ⟨rfl, hb⟩; obtain ⟨x, rfl⟩ := Kin.more (W := W1) (by repeat (first | exact Below.refl _ _ | exact Kin.below _ | refine below_alloc ?_ _)) hb; clear hb hI)
    | (go_at_call 18; (with_reducible refine (ex_count _ _ _ hI.out).mono ?_); rintro e w' ⟨rfl, hb⟩; obtain ⟨x, rfl⟩ := Kin.more (W := W1) (by repeat (first | exact Below.refl _ _ | exact Kin.below _ | refine below_alloc ?_ _)) hb; clear hb hI)
    | (go_at_call 20; (with_reducible refine (ex_valid _ _ _ hI.out).mono ?_); rintro e w' ⟨rfl, hb⟩; obtain ⟨x, rfl⟩ := Kin.more (W := W1) (by repeat (first | exact Below.refl _ _ | exact Kin.below _ | refine below_alloc ?_ _)) hb; clear hb hI)
    | (go_at_call 20; (with_reducible refine (ex_valid2 _ _ _ hI.out).mono ?_); rintro e w' ⟨rfl, hb⟩; obtain ⟨x, rfl⟩ := Kin.more (W := W1) (by repeat (first | exact Below.refl _ _ | exact Kin.below _ | refine below_alloc ?_ _)) hb; clear hb hI)
    | (go_at_call 16; (with_reducible refine (ex_biz3 _ _ _ hI.out).mono ?_); rintro e w' ⟨rfl, hb⟩; obtain ⟨x, rfl⟩ := Kin.more (W := W1) (by repeat (first | exact Below.refl _ _ | exact Kin.below _ | refine below_alloc ?_ _)) hb; clear hb hI)
    | (go_at_call 16; (with_reducible refine (ex_biz5 _ _ _).mono ?_); rintro e w' ⟨rfl, hb⟩; obtain ⟨x, rfl⟩ := Kin.more (W := W1) (by repeat (first | exact Below.refl _ _ | exact Kin.below _ | refine below_alloc ?_ _)) hb; clear hb)
    | (go_at_call 16; (with_reducible refine (ex_biz4 _ _ _ hI.out).mono ?_); rintro e w' ⟨rfl, hb⟩; obtain ⟨x, rfl⟩ := Kin.more (W := W1) (by repeat (first | exact Below.refl _ _ | exact Kin.below _ | refine below_alloc ?_ _)) hb; clear hb hI))
  go_ret
  exact ⟨rfl, hb2.trans (Below.mono (Kin.below _) hb2.size)⟩
end Go.Proofs.YthnjbcdfcpchnaaDoor
