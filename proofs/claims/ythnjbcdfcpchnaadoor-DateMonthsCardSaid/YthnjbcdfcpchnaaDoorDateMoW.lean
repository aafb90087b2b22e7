/- The walks of DateMonths. -/
import Derived.Test.YthnjbcdfcpchnaaDoorDateHead
import Derived.Test.YthnjbcdfcpchnaaDoorDateMM
namespace Go.Proofs.YthnjbcdfcpchnaaDoor.dateMonths
open Go.RowKit Go.Shelf

/-- Months at any arguments. -/
theorem months_all (n k : Int) (w : World) (ht : Table w) :
    Calls Tryd.prog 13 #[.int .i64 n, .int .i64 k] w fun e w' => e = ret2 (Cal.mV n k) (Cal.mE n k) ∧ Below w.heap.size w w' := by
  by_cases h : n < 0 ∨ 73048 < n ∨ k < -2400 ∨ 2400 < k
  · have e : Cal.mE n k = 1 := by unfold Cal.mE; rw [if_pos h]
    have v : Cal.mV n k = 0 := by unfold Cal.mV; rw [e]; rfl
    rw [e, v]
    exact months_arg n k w h ht ht.pos
  · obtain ⟨y, m, d, hv, hn⟩ := Cal.exists_date n (by omega) (by omega)
    have hd := Cal.dateOf_eq hv hn
    by_cases r : y * 12 + m - 1 + k < 23880 ∨ 26280 ≤ y * 12 + m - 1 + k
    · have e : Cal.mE n k = 2 := by unfold Cal.mE; rw [if_neg h, hd, if_pos r]
      have v : Cal.mV n k = 0 := by unfold Cal.mV; rw [e]; rfl
      rw [e, v]
      exact months_range y m d n k w hv hn (by omega) (by omega) r ht ht.pos
    · have e : Cal.mE n k = 0 := by unfold Cal.mE; rw [if_neg h, hd, if_neg r]
      have v : Cal.mV n k = Cal.months y m d k := by unfold Cal.mV; rw [e, if_pos rfl, hd]
      rw [e, v]
      exact months_ok y m d n k w hv hn (by omega) (by omega) (by omega) (by omega) ht ht.pos
/-- .. whatever they are. -/
theorem months_val (n k v e : Int) (w : World) (hv : Hid (Cal.mV n k = v)) (he : Hid (Cal.mE n k = e)) (ht : Table w) :
    Calls Tryd.prog 13 #[.int .i64 n, .int .i64 k] w fun e' w' => e' = ret2 v e ∧ Below w.heap.size w w' := by
  have h := months_all n k w ht
  rw [hv.out, he.out] at h; exact h

set_option maxRecDepth 100000 in
set_option maxHeartbeats 400000 in
theorem walk_a1 (day later k : Int) (b f : Int) (HB : Hid (Cal.mV later k = b)) (HF : Hid (Cal.mE later k = f)) (w : World) (h : day < 0) (HT : Hid (Table w)) :
    Calls Tryd.prog 5 #[.int .i64 day, .int .i64 later, .int .i64 k] w fun e w' => e = .returned (.bool true) ∧ Below w.heap.size w w' := by
  have hE : day < 0 ∨ 73048 < day ∨ k < -2400 ∨ 2400 < k := by omega
  have HE := Lib.hid hE
  clear hE
  go_enter Tryd.func5, Tryd.ntmps5
  go_wp2_with (first
    | (go_at_call 9; (with_reducible refine (head_any _ (HT.out.keep (by repeat (first | exact Below.refl _ _ | exact Kin.below _ | refine below_alloc ?_ _)))).mono ?_); rintro e w' ⟨rfl, hb⟩; obtain ⟨x, rfl⟩ := Kin.more (W := w) (by repeat (first | exact Below.refl _ _ | exact Kin.below _ | refine below_alloc ?_ _)) hb; clear hb)
    | (go_at_call 13; (with_reducible refine (months_arg day k _ HE.out (HT.out.keep (by repeat (first | exact Below.refl _ _ | exact Kin.below _ | refine below_alloc ?_ _))) (Table.pos (HT.out.keep (by repeat (first | exact Below.refl _ _ | exact Kin.below _ | refine below_alloc ?_ _))))).mono ?_); rintro e w' ⟨rfl, hb⟩; obtain ⟨x, rfl⟩ := Kin.more (W := w) (by repeat (first | exact Below.refl _ _ | exact Kin.below _ | refine below_alloc ?_ _)) hb; clear hb)
    | (go_at_call 13; (with_reducible refine (months_val later k b f _ HB HF (HT.out.keep (by repeat (first | exact Below.refl _ _ | exact Kin.below _ | refine below_alloc ?_ _)))).mono ?_); rintro e w' ⟨rfl, hb⟩; obtain ⟨x, rfl⟩ := Kin.more (W := w) (by repeat (first | exact Below.refl _ _ | exact Kin.below _ | refine below_alloc ?_ _)) hb; clear hb))
  go_ret
  exact ⟨rfl, Kin.below _⟩

set_option maxRecDepth 100000 in
set_option maxHeartbeats 400000 in
theorem walk_a2 (day later k : Int) (b f : Int) (HB : Hid (Cal.mV later k = b)) (HF : Hid (Cal.mE later k = f)) (w : World) (h : 73048 < day) (HT : Hid (Table w)) :
    Calls Tryd.prog 5 #[.int .i64 day, .int .i64 later, .int .i64 k] w fun e w' => e = .returned (.bool true) ∧ Below w.heap.size w w' := by
  have hE : day < 0 ∨ 73048 < day ∨ k < -2400 ∨ 2400 < k := by omega
  have HE := Lib.hid hE
  clear hE
  go_enter Tryd.func5, Tryd.ntmps5
  go_wp2_with (first
    | (go_at_call 9; (with_reducible refine (head_any _ (HT.out.keep (by repeat (first | exact Below.refl _ _ | exact Kin.below _ | refine below_alloc ?_ _)))).mono ?_); rintro e w' ⟨rfl, hb⟩; obtain ⟨x, rfl⟩ := Kin.more (W := w) (by repeat (first | exact Below.refl _ _ | exact Kin.below _ | refine below_alloc ?_ _)) hb; clear hb)
    | (go_at_call 13; (with_reducible refine (months_arg day k _ HE.out (HT.out.keep (by repeat (first | exact Below.refl _ _ | exact Kin.below _ | refine below_alloc ?_ _))) (Table.pos (HT.out.keep (by repeat (first | exact Below.refl _ _ | exact Kin.below _ | refine below_alloc ?_ _))))).mono ?_); rintro e w' ⟨rfl, hb⟩; obtain ⟨x, rfl⟩ := Kin.more (W := w) (by repeat (first | exact Below.refl _ _ | exact Kin.below _ | refine below_alloc ?_ _)) hb; clear hb)
    | (go_at_call 13; (with_reducible refine (months_val later k b f _ HB HF (HT.out.keep (by repeat (first | exact Below.refl _ _ | exact Kin.below _ | refine below_alloc ?_ _)))).mono ?_); rintro e w' ⟨rfl, hb⟩; obtain ⟨x, rfl⟩ := Kin.more (W := w) (by repeat (first | exact Below.refl _ _ | exact Kin.below _ | refine below_alloc ?_ _)) hb; clear hb))
  go_ret
  exact ⟨rfl, Kin.below _⟩

set_option maxRecDepth 100000 in
set_option maxHeartbeats 400000 in
theorem walk_a3 (day later k : Int) (b f : Int) (HB : Hid (Cal.mV later k = b)) (HF : Hid (Cal.mE later k = f)) (w : World) (h1 : 0 ≤ day) (h2 : day ≤ 73048) (h : k < -2400) (HT : Hid (Table w)) :
    Calls Tryd.prog 5 #[.int .i64 day, .int .i64 later, .int .i64 k] w fun e w' => e = .returned (.bool true) ∧ Below w.heap.size w w' := by
  have hE : day < 0 ∨ 73048 < day ∨ k < -2400 ∨ 2400 < k := by omega
  have HE := Lib.hid hE
  clear hE
  go_enter Tryd.func5, Tryd.ntmps5
  go_wp2_with (first
    | (go_at_call 9; (with_reducible refine (head_any _ (HT.out.keep (by repeat (first | exact Below.refl _ _ | exact Kin.below _ | refine below_alloc ?_ _)))).mono ?_); rintro e w' ⟨rfl, hb⟩; obtain ⟨x, rfl⟩ := Kin.more (W := w) (by repeat (first | exact Below.refl _ _ | exact Kin.below _ | refine below_alloc ?_ _)) hb; clear hb)
    | (go_at_call 13; (with_reducible refine (months_arg day k _ HE.out (HT.out.keep (by repeat (first | exact Below.refl _ _ | exact Kin.below _ | refine below_alloc ?_ _))) (Table.pos (HT.out.keep (by repeat (first | exact Below.refl _ _ | exact Kin.below _ | refine below_alloc ?_ _))))).mono ?_); rintro e w' ⟨rfl, hb⟩; obtain ⟨x, rfl⟩ := Kin.more (W := w) (by repeat (first | exact Below.refl _ _ | exact Kin.below _ | refine below_alloc ?_ _)) hb; clear hb)
    | (go_at_call 13; (with_reducible refine (months_val later k b f _ HB HF (HT.out.keep (by repeat (first | exact Below.refl _ _ | exact Kin.below _ | refine below_alloc ?_ _)))).mono ?_); rintro e w' ⟨rfl, hb⟩; obtain ⟨x, rfl⟩ := Kin.more (W := w) (by repeat (first | exact Below.refl _ _ | exact Kin.below _ | refine below_alloc ?_ _)) hb; clear hb))
  go_ret
  exact ⟨rfl, Kin.below _⟩

set_option maxRecDepth 100000 in
set_option maxHeartbeats 400000 in
theorem walk_a4 (day later k : Int) (b f : Int) (HB : Hid (Cal.mV later k = b)) (HF : Hid (Cal.mE later k = f)) (w : World) (h1 : 0 ≤ day) (h2 : day ≤ 73048) (h : 2400 < k) (HT : Hid (Table w)) :
    Calls Tryd.prog 5 #[.int .i64 day, .int .i64 later, .int .i64 k] w fun e w' => e = .returned (.bool true) ∧ Below w.heap.size w w' := by
  have hE : day < 0 ∨ 73048 < day ∨ k < -2400 ∨ 2400 < k := by omega
  have HE := Lib.hid hE
  clear hE
  go_enter Tryd.func5, Tryd.ntmps5
  go_wp2_with (first
    | (go_at_call 9; (with_reducible refine (head_any _ (HT.out.keep (by repeat (first | exact Below.refl _ _ | exact Kin.below _ | refine below_alloc ?_ _)))).mono ?_); rintro e w' ⟨rfl, hb⟩; obtain ⟨x, rfl⟩ := Kin.more (W := w) (by repeat (first | exact Below.refl _ _ | exact Kin.below _ | refine below_alloc ?_ _)) hb; clear hb)
    | (go_at_call 13; (with_reducible refine (months_arg day k _ HE.out (HT.out.keep (by repeat (first | exact Below.refl _ _ | exact Kin.below _ | refine below_alloc ?_ _))) (Table.pos (HT.out.keep (by repeat (first | exact Below.refl _ _ | exact Kin.below _ | refine below_alloc ?_ _))))).mono ?_); rintro e w' ⟨rfl, hb⟩; obtain ⟨x, rfl⟩ := Kin.more (W := w) (by repeat (first | exact Below.refl _ _ | exact Kin.below _ | refine below_alloc ?_ _)) hb; clear hb)
    | (go_at_call 13; (with_reducible refine (months_val later k b f _ HB HF (HT.out.keep (by repeat (first | exact Below.refl _ _ | exact Kin.below _ | refine below_alloc ?_ _)))).mono ?_); rintro e w' ⟨rfl, hb⟩; obtain ⟨x, rfl⟩ := Kin.more (W := w) (by repeat (first | exact Below.refl _ _ | exact Kin.below _ | refine below_alloc ?_ _)) hb; clear hb))
  go_ret
  exact ⟨rfl, Kin.below _⟩

set_option maxRecDepth 100000 in
set_option maxHeartbeats 400000 in
theorem walk_r1 (day later k : Int) (b f : Int) (HB : Hid (Cal.mV later k = b)) (HF : Hid (Cal.mE later k = f)) (y m d : Int) (O : Hid (Cal.okB y m d = true)) (N : Hid (Cal.num y m d = day)) (c1 : 1990 ≤ y) (c2 : y ≤ 2189) (c3 : 1 ≤ m) (c4 : m ≤ 12) (c5 : 1 ≤ d) (c6 : d ≤ 31) (k1 : -2400 ≤ k) (k2 : k ≤ 2400) (w : World) (h : y * 12 + m - 1 + k < 23880) (HT : Hid (Table w)) :
    Calls Tryd.prog 5 #[.int .i64 day, .int .i64 later, .int .i64 k] w fun e w' => e = .returned (.bool true) ∧ Below w.heap.size w w' := by
  have hE : y * 12 + m - 1 + k < 23880 ∨ 26280 ≤ y * 12 + m - 1 + k := by omega
  have HE := Lib.hid hE
  clear hE
  go_enter Tryd.func5, Tryd.ntmps5
  go_wp2_with (first
    | (go_at_call 9; (with_reducible refine (head_any _ (HT.out.keep (by repeat (first | exact Below.refl _ _ | exact Kin.below _ | refine below_alloc ?_ _)))).mono ?_); rintro e w' ⟨rfl, hb⟩; obtain ⟨x, rfl⟩ := Kin.more (W := w) (by repeat (first | exact Below.refl _ _ | exact Kin.below _ | refine below_alloc ?_ _)) hb; clear hb)
    | (go_at_call 13; (with_reducible refine (months_range y m d day k _ O.out N.out k1 k2 HE.out (HT.out.keep (by repeat (first | exact Below.refl _ _ | exact Kin.below _ | refine below_alloc ?_ _))) (Table.pos (HT.out.keep (by repeat (first | exact Below.refl _ _ | exact Kin.below _ | refine below_alloc ?_ _))))).mono ?_); rintro e w' ⟨rfl, hb⟩; obtain ⟨x, rfl⟩ := Kin.more (W := w) (by repeat (first | exact Below.refl _ _ | exact Kin.below _ | refine below_alloc ?_ _)) hb; clear hb)
    | (go_at_call 13; (with_reducible refine (months_val later k b f _ HB HF (HT.out.keep (by repeat (first | exact Below.refl _ _ | exact Kin.below _ | refine below_alloc ?_ _)))).mono ?_); rintro e w' ⟨rfl, hb⟩; obtain ⟨x, rfl⟩ := Kin.more (W := w) (by repeat (first | exact Below.refl _ _ | exact Kin.below _ | refine below_alloc ?_ _)) hb; clear hb)
    | (go_at_call 11; (with_reducible refine (civil_at y m d day _ O.out N.out (HT.out.keep (by repeat (first | exact Below.refl _ _ | exact Kin.below _ | refine below_alloc ?_ _))) (Table.pos (HT.out.keep (by repeat (first | exact Below.refl _ _ | exact Kin.below _ | refine below_alloc ?_ _))))).mono ?_); rintro e w' ⟨rfl, hb⟩; obtain ⟨x, rfl⟩ := Kin.more (W := w) (by repeat (first | exact Below.refl _ _ | exact Kin.below _ | refine below_alloc ?_ _)) hb; clear hb))
  go_ret
  exact ⟨rfl, below_alloc (Kin.below _) _⟩

set_option maxRecDepth 100000 in
set_option maxHeartbeats 400000 in
theorem walk_r2 (day later k : Int) (b f : Int) (HB : Hid (Cal.mV later k = b)) (HF : Hid (Cal.mE later k = f)) (y m d : Int) (O : Hid (Cal.okB y m d = true)) (N : Hid (Cal.num y m d = day)) (c1 : 1990 ≤ y) (c2 : y ≤ 2189) (c3 : 1 ≤ m) (c4 : m ≤ 12) (c5 : 1 ≤ d) (c6 : d ≤ 31) (k1 : -2400 ≤ k) (k2 : k ≤ 2400) (w : World) (h : 26280 ≤ y * 12 + m - 1 + k) (HT : Hid (Table w)) :
    Calls Tryd.prog 5 #[.int .i64 day, .int .i64 later, .int .i64 k] w fun e w' => e = .returned (.bool true) ∧ Below w.heap.size w w' := by
  have hE : y * 12 + m - 1 + k < 23880 ∨ 26280 ≤ y * 12 + m - 1 + k := by omega
  have HE := Lib.hid hE
  clear hE
  go_enter Tryd.func5, Tryd.ntmps5
  go_wp2_with (first
    | (go_at_call 9; (with_reducible refine (head_any _ (HT.out.keep (by repeat (first | exact Below.refl _ _ | exact Kin.below _ | refine below_alloc ?_ _)))).mono ?_); rintro e w' ⟨rfl, hb⟩; obtain ⟨x, rfl⟩ := Kin.more (W := w) (by repeat (first | exact Below.refl _ _ | exact Kin.below _ | refine below_alloc ?_ _)) hb; clear hb)
    | (go_at_call 13; (with_reducible refine (months_range y m d day k _ O.out N.out k1 k2 HE.out (HT.out.keep (by repeat (first | exact Below.refl _ _ | exact Kin.below _ | refine below_alloc ?_ _))) (Table.pos (HT.out.keep (by repeat (first | exact Below.refl _ _ | exact Kin.below _ | refine below_alloc ?_ _))))).mono ?_); rintro e w' ⟨rfl, hb⟩; obtain ⟨x, rfl⟩ := Kin.more (W := w) (by repeat (first | exact Below.refl _ _ | exact Kin.below _ | refine below_alloc ?_ _)) hb; clear hb)
    | (go_at_call 13; (with_reducible refine (months_val later k b f _ HB HF (HT.out.keep (by repeat (first | exact Below.refl _ _ | exact Kin.below _ | refine below_alloc ?_ _)))).mono ?_); rintro e w' ⟨rfl, hb⟩; obtain ⟨x, rfl⟩ := Kin.more (W := w) (by repeat (first | exact Below.refl _ _ | exact Kin.below _ | refine below_alloc ?_ _)) hb; clear hb)
    | (go_at_call 11; (with_reducible refine (civil_at y m d day _ O.out N.out (HT.out.keep (by repeat (first | exact Below.refl _ _ | exact Kin.below _ | refine below_alloc ?_ _))) (Table.pos (HT.out.keep (by repeat (first | exact Below.refl _ _ | exact Kin.below _ | refine below_alloc ?_ _))))).mono ?_); rintro e w' ⟨rfl, hb⟩; obtain ⟨x, rfl⟩ := Kin.more (W := w) (by repeat (first | exact Below.refl _ _ | exact Kin.below _ | refine below_alloc ?_ _)) hb; clear hb))
  go_ret
  exact ⟨rfl, below_alloc (Kin.below _) _⟩

set_option maxRecDepth 100000 in
set_option maxHeartbeats 400000 in
theorem walk_nx (day later k : Int) (b f : Int) (HB : Hid (Cal.mV later k = b)) (HF : Hid (Cal.mE later k = f)) (y m d : Int) (O : Hid (Cal.okB y m d = true)) (N : Hid (Cal.num y m d = day)) (c1 : 1990 ≤ y) (c2 : y ≤ 2189) (c3 : 1 ≤ m) (c4 : m ≤ 12) (c5 : 1 ≤ d) (c6 : d ≤ 31) (k1 : -2400 ≤ k) (k2 : k ≤ 2400) (w : World) (a : Int) (HA : Hid (Cal.months y m d k = a)) (a1 : 0 ≤ a) (y' m' d' : Int) (O' : Hid (Cal.okB y' m' d' = true)) (N' : Hid (Cal.num y' m' d' = a)) (e1 : y' * 12 + m' - 1 ≤ y * 12 + m - 1 + k) (e1' : y * 12 + m - 1 + k ≤ y' * 12 + m' - 1) (c1' : 1990 ≤ y') (c2' : y' ≤ 2189) (c3' : 1 ≤ m') (c4' : m' ≤ 12) (c5' : 1 ≤ d') (r1 : 23880 ≤ y * 12 + m - 1 + k) (r2 : y * 12 + m - 1 + k < 26280) (fin : f = 0 → day ≤ later → a ≤ b) (hd : d' < d) (h28 : 28 < d) (amax : a < 73048) (y2 m2 : Int) (O2 : Hid (Cal.okB y2 m2 1 = true)) (N2 : Hid (Cal.num y2 m2 1 = a + 1)) (HT : Hid (Table w)) :
    Calls Tryd.prog 5 #[.int .i64 day, .int .i64 later, .int .i64 k] w fun e w' => e = .returned (.bool true) ∧ Below w.heap.size w w' := by
  have HQ := Lib.hid fin
  clear fin
  go_enter Tryd.func5, Tryd.ntmps5
  go_wp2_with (first
    | (go_at_call 9; (with_reducible refine (head_any _ (HT.out.keep (by repeat (first | exact Below.refl _ _ | exact Kin.below _ | refine below_alloc ?_ _)))).mono ?_); rintro e w' ⟨rfl, hb⟩; obtain ⟨x, rfl⟩ := Kin.more (W := w) (by repeat (first | exact Below.refl _ _ | exact Kin.below _ | refine below_alloc ?_ _)) hb; clear hb)
    | (go_at_call 13; (with_reducible refine (months_ok y m d day k _ O.out N.out k1 k2 r1 r2 (HT.out.keep (by repeat (first | exact Below.refl _ _ | exact Kin.below _ | refine below_alloc ?_ _))) (Table.pos (HT.out.keep (by repeat (first | exact Below.refl _ _ | exact Kin.below _ | refine below_alloc ?_ _))))).mono ?_); rw [HA.out]; rintro e w' ⟨rfl, hb⟩; obtain ⟨x, rfl⟩ := Kin.more (W := w) (by repeat (first | exact Below.refl _ _ | exact Kin.below _ | refine below_alloc ?_ _)) hb; clear hb)
    | (go_at_call 13; (with_reducible refine (months_val later k b f _ HB HF (HT.out.keep (by repeat (first | exact Below.refl _ _ | exact Kin.below _ | refine below_alloc ?_ _)))).mono ?_); rintro e w' ⟨rfl, hb⟩; obtain ⟨x, rfl⟩ := Kin.more (W := w) (by repeat (first | exact Below.refl _ _ | exact Kin.below _ | refine below_alloc ?_ _)) hb; clear hb)
    | (go_at_call 11; (with_reducible refine (civil_at y m d day _ O.out N.out (HT.out.keep (by repeat (first | exact Below.refl _ _ | exact Kin.below _ | refine below_alloc ?_ _))) (Table.pos (HT.out.keep (by repeat (first | exact Below.refl _ _ | exact Kin.below _ | refine below_alloc ?_ _))))).mono ?_); rintro e w' ⟨rfl, hb⟩; obtain ⟨x, rfl⟩ := Kin.more (W := w) (by repeat (first | exact Below.refl _ _ | exact Kin.below _ | refine below_alloc ?_ _)) hb; clear hb))
  have hb2 : Below w.heap.size w (x.w.alloc (.cells #[.int .i64 y, .int .i64 m, .int .i64 d] 23)) := x.below.alloc x.below.size _
  have e0 : (x.w.alloc (.cells #[.int .i64 y, .int .i64 m, .int .i64 d] 23)).cell? ⟨x.w.heap.size, 0, none⟩ = some (.int .i64 y) := by go_simp
  have e1 : (x.w.alloc (.cells #[.int .i64 y, .int .i64 m, .int .i64 d] 23)).cell? ⟨x.w.heap.size, 1, none⟩ = some (.int .i64 m) := by go_simp
  have e2 : (x.w.alloc (.cells #[.int .i64 y, .int .i64 m, .int .i64 d] 23)).cell? ⟨x.w.heap.size, 2, none⟩ = some (.int .i64 d) := by go_simp
  have ht2 := HT.out.keep hb2
  generalize x.w.alloc (.cells #[.int .i64 y, .int .i64 m, .int .i64 d] 23) = W1 at *
  clear HT
  have HT := Lib.hid ht2
  have q0 := fun (x : Kin W1) o => Kin.allocCell e0 x o
  have q1 := fun (x : Kin W1) o => Kin.allocCell e1 x o
  have q2 := fun (x : Kin W1) o => Kin.allocCell e2 x o
  have p0 := fun (x : Kin W1) => Kin.cell e0 x
  have p1 := fun (x : Kin W1) => Kin.cell e1 x
  have p2 := fun (x : Kin W1) => Kin.cell e2 x
  clear ht2
  go_wp2_with (first
    | (go_at_call 11; (with_reducible refine (civil_at y' m' d' a _ O'.out N'.out (HT.out.keep (by repeat (first | exact Below.refl _ _ | exact Kin.below _ | refine below_alloc ?_ _))) (Table.pos (HT.out.keep (by repeat (first | exact Below.refl _ _ | exact Kin.below _ | refine below_alloc ?_ _))))).mono ?_); rintro e w' ⟨rfl, hb⟩; obtain ⟨x, rfl⟩ := Kin.more (W := W1) (by repeat (first | exact Below.refl _ _ | exact Kin.below _ | refine below_alloc ?_ _)) hb; clear hb)
    | (go_at_call 11; (with_reducible refine (civil_at y2 m2 1 (a + 1) _ O2.out N2.out (HT.out.keep (by repeat (first | exact Below.refl _ _ | exact Kin.below _ | refine below_alloc ?_ _))) (Table.pos (HT.out.keep (by repeat (first | exact Below.refl _ _ | exact Kin.below _ | refine below_alloc ?_ _))))).mono ?_); rintro e w' ⟨rfl, hb⟩; obtain ⟨x, rfl⟩ := Kin.more (W := W1) (by repeat (first | exact Below.refl _ _ | exact Kin.below _ | refine below_alloc ?_ _)) hb; clear hb))
  all_goals
    go_ret
    first
      | exact ⟨rfl, hb2.trans (Below.mono (by repeat (first | exact Kin.below _ | refine below_alloc ?_ _)) hb2.size)⟩
      | exact ⟨ret_bool (by rw [Bool.or_eq_true, decide_eq_true_iff, decide_eq_true_iff]; exact .inr (HQ.out ‹f = 0› (by omega))), hb2.trans (Below.mono (by repeat (first | exact Kin.below _ | refine below_alloc ?_ _)) hb2.size)⟩

set_option maxRecDepth 100000 in
set_option maxHeartbeats 400000 in
theorem walk_mx (day later k : Int) (b f : Int) (HB : Hid (Cal.mV later k = b)) (HF : Hid (Cal.mE later k = f)) (y m d : Int) (O : Hid (Cal.okB y m d = true)) (N : Hid (Cal.num y m d = day)) (c1 : 1990 ≤ y) (c2 : y ≤ 2189) (c3 : 1 ≤ m) (c4 : m ≤ 12) (c5 : 1 ≤ d) (c6 : d ≤ 31) (k1 : -2400 ≤ k) (k2 : k ≤ 2400) (w : World) (a : Int) (HA : Hid (Cal.months y m d k = a)) (a1 : 0 ≤ a) (y' m' d' : Int) (O' : Hid (Cal.okB y' m' d' = true)) (N' : Hid (Cal.num y' m' d' = a)) (e1 : y' * 12 + m' - 1 ≤ y * 12 + m - 1 + k) (e1' : y * 12 + m - 1 + k ≤ y' * 12 + m' - 1) (c1' : 1990 ≤ y') (c2' : y' ≤ 2189) (c3' : 1 ≤ m') (c4' : m' ≤ 12) (c5' : 1 ≤ d') (r1 : 23880 ≤ y * 12 + m - 1 + k) (r2 : y * 12 + m - 1 + k < 26280) (fin : f = 0 → day ≤ later → a ≤ b) (hd : d' < d) (h28 : 28 < d) (amax : a = 73048) (HT : Hid (Table w)) :
    Calls Tryd.prog 5 #[.int .i64 day, .int .i64 later, .int .i64 k] w fun e w' => e = .returned (.bool true) ∧ Below w.heap.size w w' := by
  subst amax
  have HQ := Lib.hid fin
  clear fin
  go_enter Tryd.func5, Tryd.ntmps5
  go_wp2_with (first
    | (go_at_call 9; (with_reducible refine (head_any _ (HT.out.keep (by repeat (first | exact Below.refl _ _ | exact Kin.below _ | refine below_alloc ?_ _)))).mono ?_); rintro e w' ⟨rfl, hb⟩; obtain ⟨x, rfl⟩ := Kin.more (W := w) (by repeat (first | exact Below.refl _ _ | exact Kin.below _ | refine below_alloc ?_ _)) hb; clear hb)
    | (go_at_call 13; (with_reducible refine (months_ok y m d day k _ O.out N.out k1 k2 r1 r2 (HT.out.keep (by repeat (first | exact Below.refl _ _ | exact Kin.below _ | refine below_alloc ?_ _))) (Table.pos (HT.out.keep (by repeat (first | exact Below.refl _ _ | exact Kin.below _ | refine below_alloc ?_ _))))).mono ?_); rw [HA.out]; rintro e w' ⟨rfl, hb⟩; obtain ⟨x, rfl⟩ := Kin.more (W := w) (by repeat (first | exact Below.refl _ _ | exact Kin.below _ | refine below_alloc ?_ _)) hb; clear hb)
    | (go_at_call 13; (with_reducible refine (months_val later k b f _ HB HF (HT.out.keep (by repeat (first | exact Below.refl _ _ | exact Kin.below _ | refine below_alloc ?_ _)))).mono ?_); rintro e w' ⟨rfl, hb⟩; obtain ⟨x, rfl⟩ := Kin.more (W := w) (by repeat (first | exact Below.refl _ _ | exact Kin.below _ | refine below_alloc ?_ _)) hb; clear hb)
    | (go_at_call 11; (with_reducible refine (civil_at y m d day _ O.out N.out (HT.out.keep (by repeat (first | exact Below.refl _ _ | exact Kin.below _ | refine below_alloc ?_ _))) (Table.pos (HT.out.keep (by repeat (first | exact Below.refl _ _ | exact Kin.below _ | refine below_alloc ?_ _))))).mono ?_); rintro e w' ⟨rfl, hb⟩; obtain ⟨x, rfl⟩ := Kin.more (W := w) (by repeat (first | exact Below.refl _ _ | exact Kin.below _ | refine below_alloc ?_ _)) hb; clear hb))
  have hb2 : Below w.heap.size w (x.w.alloc (.cells #[.int .i64 y, .int .i64 m, .int .i64 d] 23)) := x.below.alloc x.below.size _
  have e0 : (x.w.alloc (.cells #[.int .i64 y, .int .i64 m, .int .i64 d] 23)).cell? ⟨x.w.heap.size, 0, none⟩ = some (.int .i64 y) := by go_simp
  have e1 : (x.w.alloc (.cells #[.int .i64 y, .int .i64 m, .int .i64 d] 23)).cell? ⟨x.w.heap.size, 1, none⟩ = some (.int .i64 m) := by go_simp
  have e2 : (x.w.alloc (.cells #[.int .i64 y, .int .i64 m, .int .i64 d] 23)).cell? ⟨x.w.heap.size, 2, none⟩ = some (.int .i64 d) := by go_simp
  have ht2 := HT.out.keep hb2
  generalize x.w.alloc (.cells #[.int .i64 y, .int .i64 m, .int .i64 d] 23) = W1 at *
  clear HT
  have HT := Lib.hid ht2
  have q0 := fun (x : Kin W1) o => Kin.allocCell e0 x o
  have q1 := fun (x : Kin W1) o => Kin.allocCell e1 x o
  have q2 := fun (x : Kin W1) o => Kin.allocCell e2 x o
  have p0 := fun (x : Kin W1) => Kin.cell e0 x
  have p1 := fun (x : Kin W1) => Kin.cell e1 x
  have p2 := fun (x : Kin W1) => Kin.cell e2 x
  clear ht2
  go_wp2_with (first
    | (go_at_call 11; (with_reducible refine (civil_at y' m' d' 73048 _ O'.out N'.out (HT.out.keep (by repeat (first | exact Below.refl _ _ | exact Kin.below _ | refine below_alloc ?_ _))) (Table.pos (HT.out.keep (by repeat (first | exact Below.refl _ _ | exact Kin.below _ | refine below_alloc ?_ _))))).mono ?_); rintro e w' ⟨rfl, hb⟩; obtain ⟨x, rfl⟩ := Kin.more (W := W1) (by repeat (first | exact Below.refl _ _ | exact Kin.below _ | refine below_alloc ?_ _)) hb; clear hb)
    | (go_at_call 11; (with_reducible refine (civil_no 73049 _ (.inr (by decide))).mono ?_); rintro e w' ⟨rfl, hb⟩; obtain ⟨x, rfl⟩ := Kin.more (W := W1) (by repeat (first | exact Below.refl _ _ | exact Kin.below _ | refine below_alloc ?_ _)) hb; clear hb))
  all_goals
    go_ret
    first
      | exact ⟨rfl, hb2.trans (Below.mono (by repeat (first | exact Kin.below _ | refine below_alloc ?_ _)) hb2.size)⟩
      | exact ⟨ret_bool (by rw [Bool.or_eq_true, decide_eq_true_iff, decide_eq_true_iff]; exact .inr (HQ.out ‹f = 0› (by omega))), hb2.trans (Below.mono (by repeat (first | exact Kin.below _ | refine below_alloc ?_ _)) hb2.size)⟩

set_option maxRecDepth 100000 in
set_option maxHeartbeats 400000 in
theorem walk_bk (day later k : Int) (b f : Int) (HB : Hid (Cal.mV later k = b)) (HF : Hid (Cal.mE later k = f)) (y m d : Int) (O : Hid (Cal.okB y m d = true)) (N : Hid (Cal.num y m d = day)) (c1 : 1990 ≤ y) (c2 : y ≤ 2189) (c3 : 1 ≤ m) (c4 : m ≤ 12) (c5 : 1 ≤ d) (c6 : d ≤ 31) (k1 : -2400 ≤ k) (k2 : k ≤ 2400) (w : World) (a : Int) (HA : Hid (Cal.months y m d k = a)) (a1 : 0 ≤ a) (y' m' d' : Int) (O' : Hid (Cal.okB y' m' d' = true)) (N' : Hid (Cal.num y' m' d' = a)) (e1 : y' * 12 + m' - 1 ≤ y * 12 + m - 1 + k) (e1' : y * 12 + m - 1 + k ≤ y' * 12 + m' - 1) (c1' : 1990 ≤ y') (c2' : y' ≤ 2189) (c3' : 1 ≤ m') (c4' : m' ≤ 12) (c5' : 1 ≤ d') (r1 : 23880 ≤ y * 12 + m - 1 + k) (r2 : y * 12 + m - 1 + k < 26280) (fin : f = 0 → day ≤ later → a ≤ b) (hd : d' = d) (h28 : d ≤ 28) (amax : a ≤ 73048) (MB : Hid (Cal.months y' m' d' (-k) = day)) (HT : Hid (Table w)) :
    Calls Tryd.prog 5 #[.int .i64 day, .int .i64 later, .int .i64 k] w fun e w' => e = .returned (.bool true) ∧ Below w.heap.size w w' := by
  subst hd
  have HQ := Lib.hid fin
  clear fin
  go_enter Tryd.func5, Tryd.ntmps5
  go_wp2_with (first
    | (go_at_call 9; (with_reducible refine (head_any _ (HT.out.keep (by repeat (first | exact Below.refl _ _ | exact Kin.below _ | refine below_alloc ?_ _)))).mono ?_); rintro e w' ⟨rfl, hb⟩; obtain ⟨x, rfl⟩ := Kin.more (W := w) (by repeat (first | exact Below.refl _ _ | exact Kin.below _ | refine below_alloc ?_ _)) hb; clear hb)
    | (go_at_call 13; (with_reducible refine (months_ok y m d' day k _ O.out N.out k1 k2 r1 r2 (HT.out.keep (by repeat (first | exact Below.refl _ _ | exact Kin.below _ | refine below_alloc ?_ _))) (Table.pos (HT.out.keep (by repeat (first | exact Below.refl _ _ | exact Kin.below _ | refine below_alloc ?_ _))))).mono ?_); rw [HA.out]; rintro e w' ⟨rfl, hb⟩; obtain ⟨x, rfl⟩ := Kin.more (W := w) (by repeat (first | exact Below.refl _ _ | exact Kin.below _ | refine below_alloc ?_ _)) hb; clear hb)
    | (go_at_call 13; (with_reducible refine (months_val later k b f _ HB HF (HT.out.keep (by repeat (first | exact Below.refl _ _ | exact Kin.below _ | refine below_alloc ?_ _)))).mono ?_); rintro e w' ⟨rfl, hb⟩; obtain ⟨x, rfl⟩ := Kin.more (W := w) (by repeat (first | exact Below.refl _ _ | exact Kin.below _ | refine below_alloc ?_ _)) hb; clear hb)
    | (go_at_call 11; (with_reducible refine (civil_at y m d' day _ O.out N.out (HT.out.keep (by repeat (first | exact Below.refl _ _ | exact Kin.below _ | refine below_alloc ?_ _))) (Table.pos (HT.out.keep (by repeat (first | exact Below.refl _ _ | exact Kin.below _ | refine below_alloc ?_ _))))).mono ?_); rintro e w' ⟨rfl, hb⟩; obtain ⟨x, rfl⟩ := Kin.more (W := w) (by repeat (first | exact Below.refl _ _ | exact Kin.below _ | refine below_alloc ?_ _)) hb; clear hb))
  have hb2 : Below w.heap.size w (x.w.alloc (.cells #[.int .i64 y, .int .i64 m, .int .i64 d'] 23)) := x.below.alloc x.below.size _
  have e0 : (x.w.alloc (.cells #[.int .i64 y, .int .i64 m, .int .i64 d'] 23)).cell? ⟨x.w.heap.size, 0, none⟩ = some (.int .i64 y) := by go_simp
  have e1 : (x.w.alloc (.cells #[.int .i64 y, .int .i64 m, .int .i64 d'] 23)).cell? ⟨x.w.heap.size, 1, none⟩ = some (.int .i64 m) := by go_simp
  have e2 : (x.w.alloc (.cells #[.int .i64 y, .int .i64 m, .int .i64 d'] 23)).cell? ⟨x.w.heap.size, 2, none⟩ = some (.int .i64 d') := by go_simp
  have ht2 := HT.out.keep hb2
  generalize x.w.alloc (.cells #[.int .i64 y, .int .i64 m, .int .i64 d'] 23) = W1 at *
  clear HT
  have HT := Lib.hid ht2
  have q0 := fun (x : Kin W1) o => Kin.allocCell e0 x o
  have q1 := fun (x : Kin W1) o => Kin.allocCell e1 x o
  have q2 := fun (x : Kin W1) o => Kin.allocCell e2 x o
  have p0 := fun (x : Kin W1) => Kin.cell e0 x
  have p1 := fun (x : Kin W1) => Kin.cell e1 x
  have p2 := fun (x : Kin W1) => Kin.cell e2 x
  clear ht2
  go_wp2_with (first
    | (go_at_call 11; (with_reducible refine (civil_at y' m' d' a _ O'.out N'.out (HT.out.keep (by repeat (first | exact Below.refl _ _ | exact Kin.below _ | refine below_alloc ?_ _))) (Table.pos (HT.out.keep (by repeat (first | exact Below.refl _ _ | exact Kin.below _ | refine below_alloc ?_ _))))).mono ?_); rintro e w' ⟨rfl, hb⟩; obtain ⟨x, rfl⟩ := Kin.more (W := W1) (by repeat (first | exact Below.refl _ _ | exact Kin.below _ | refine below_alloc ?_ _)) hb; clear hb)
    | (go_at_call 13; (with_reducible refine (months_ok y' m' d' a (-k) _ O'.out N'.out (by omega) (by omega) (by omega) (by omega) (HT.out.keep (by repeat (first | exact Below.refl _ _ | exact Kin.below _ | refine below_alloc ?_ _))) (Table.pos (HT.out.keep (by repeat (first | exact Below.refl _ _ | exact Kin.below _ | refine below_alloc ?_ _))))).mono ?_); rw [MB.out]; rintro e w' ⟨rfl, hb⟩; obtain ⟨x, rfl⟩ := Kin.more (W := W1) (by repeat (first | exact Below.refl _ _ | exact Kin.below _ | refine below_alloc ?_ _)) hb; clear hb))
  all_goals
    go_ret
    first
      | exact ⟨rfl, hb2.trans (Below.mono (by repeat (first | exact Kin.below _ | refine below_alloc ?_ _)) hb2.size)⟩
      | exact ⟨ret_bool (by rw [Bool.or_eq_true, decide_eq_true_iff, decide_eq_true_iff]; exact .inr (HQ.out ‹f = 0› (by omega))), hb2.trans (Below.mono (by repeat (first | exact Kin.below _ | refine below_alloc ?_ _)) hb2.size)⟩

set_option maxRecDepth 100000 in
set_option maxHeartbeats 400000 in
theorem walk_no (day later k : Int) (b f : Int) (HB : Hid (Cal.mV later k = b)) (HF : Hid (Cal.mE later k = f)) (y m d : Int) (O : Hid (Cal.okB y m d = true)) (N : Hid (Cal.num y m d = day)) (c1 : 1990 ≤ y) (c2 : y ≤ 2189) (c3 : 1 ≤ m) (c4 : m ≤ 12) (c5 : 1 ≤ d) (c6 : d ≤ 31) (k1 : -2400 ≤ k) (k2 : k ≤ 2400) (w : World) (a : Int) (HA : Hid (Cal.months y m d k = a)) (a1 : 0 ≤ a) (y' m' d' : Int) (O' : Hid (Cal.okB y' m' d' = true)) (N' : Hid (Cal.num y' m' d' = a)) (e1 : y' * 12 + m' - 1 ≤ y * 12 + m - 1 + k) (e1' : y * 12 + m - 1 + k ≤ y' * 12 + m' - 1) (c1' : 1990 ≤ y') (c2' : y' ≤ 2189) (c3' : 1 ≤ m') (c4' : m' ≤ 12) (c5' : 1 ≤ d') (r1 : 23880 ≤ y * 12 + m - 1 + k) (r2 : y * 12 + m - 1 + k < 26280) (fin : f = 0 → day ≤ later → a ≤ b) (hd : d' = d) (h28 : 28 < d) (amax : a ≤ 73048) (HT : Hid (Table w)) :
    Calls Tryd.prog 5 #[.int .i64 day, .int .i64 later, .int .i64 k] w fun e w' => e = .returned (.bool true) ∧ Below w.heap.size w w' := by
  subst hd
  have HQ := Lib.hid fin
  clear fin
  go_enter Tryd.func5, Tryd.ntmps5
  go_wp2_with (first
    | (go_at_call 9; (with_reducible refine (head_any _ (HT.out.keep (by repeat (first | exact Below.refl _ _ | exact Kin.below _ | refine below_alloc ?_ _)))).mono ?_); rintro e w' ⟨rfl, hb⟩; obtain ⟨x, rfl⟩ := Kin.more (W := w) (by repeat (first | exact Below.refl _ _ | exact Kin.below _ | refine below_alloc ?_ _)) hb; clear hb)
    | (go_at_call 13; (with_reducible refine (months_ok y m d' day k _ O.out N.out k1 k2 r1 r2 (HT.out.keep (by repeat (first | exact Below.refl _ _ | exact Kin.below _ | refine below_alloc ?_ _))) (Table.pos (HT.out.keep (by repeat (first | exact Below.refl _ _ | exact Kin.below _ | refine below_alloc ?_ _))))).mono ?_); rw [HA.out]; rintro e w' ⟨rfl, hb⟩; obtain ⟨x, rfl⟩ := Kin.more (W := w) (by repeat (first | exact Below.refl _ _ | exact Kin.below _ | refine below_alloc ?_ _)) hb; clear hb)
    | (go_at_call 13; (with_reducible refine (months_val later k b f _ HB HF (HT.out.keep (by repeat (first | exact Below.refl _ _ | exact Kin.below _ | refine below_alloc ?_ _)))).mono ?_); rintro e w' ⟨rfl, hb⟩; obtain ⟨x, rfl⟩ := Kin.more (W := w) (by repeat (first | exact Below.refl _ _ | exact Kin.below _ | refine below_alloc ?_ _)) hb; clear hb)
    | (go_at_call 11; (with_reducible refine (civil_at y m d' day _ O.out N.out (HT.out.keep (by repeat (first | exact Below.refl _ _ | exact Kin.below _ | refine below_alloc ?_ _))) (Table.pos (HT.out.keep (by repeat (first | exact Below.refl _ _ | exact Kin.below _ | refine below_alloc ?_ _))))).mono ?_); rintro e w' ⟨rfl, hb⟩; obtain ⟨x, rfl⟩ := Kin.more (W := w) (by repeat (first | exact Below.refl _ _ | exact Kin.below _ | refine below_alloc ?_ _)) hb; clear hb))
  have hb2 : Below w.heap.size w (x.w.alloc (.cells #[.int .i64 y, .int .i64 m, .int .i64 d'] 23)) := x.below.alloc x.below.size _
  have e0 : (x.w.alloc (.cells #[.int .i64 y, .int .i64 m, .int .i64 d'] 23)).cell? ⟨x.w.heap.size, 0, none⟩ = some (.int .i64 y) := by go_simp
  have e1 : (x.w.alloc (.cells #[.int .i64 y, .int .i64 m, .int .i64 d'] 23)).cell? ⟨x.w.heap.size, 1, none⟩ = some (.int .i64 m) := by go_simp
  have e2 : (x.w.alloc (.cells #[.int .i64 y, .int .i64 m, .int .i64 d'] 23)).cell? ⟨x.w.heap.size, 2, none⟩ = some (.int .i64 d') := by go_simp
  have ht2 := HT.out.keep hb2
  generalize x.w.alloc (.cells #[.int .i64 y, .int .i64 m, .int .i64 d'] 23) = W1 at *
  clear HT
  have HT := Lib.hid ht2
  have q0 := fun (x : Kin W1) o => Kin.allocCell e0 x o
  have q1 := fun (x : Kin W1) o => Kin.allocCell e1 x o
  have q2 := fun (x : Kin W1) o => Kin.allocCell e2 x o
  have p0 := fun (x : Kin W1) => Kin.cell e0 x
  have p1 := fun (x : Kin W1) => Kin.cell e1 x
  have p2 := fun (x : Kin W1) => Kin.cell e2 x
  clear ht2
  go_wp2_with (first
    | (go_at_call 11; (with_reducible refine (civil_at y' m' d' a _ O'.out N'.out (HT.out.keep (by repeat (first | exact Below.refl _ _ | exact Kin.below _ | refine below_alloc ?_ _))) (Table.pos (HT.out.keep (by repeat (first | exact Below.refl _ _ | exact Kin.below _ | refine below_alloc ?_ _))))).mono ?_); rintro e w' ⟨rfl, hb⟩; obtain ⟨x, rfl⟩ := Kin.more (W := W1) (by repeat (first | exact Below.refl _ _ | exact Kin.below _ | refine below_alloc ?_ _)) hb; clear hb)
    | fail)
  all_goals
    go_ret
    first
      | exact ⟨rfl, hb2.trans (Below.mono (by repeat (first | exact Kin.below _ | refine below_alloc ?_ _)) hb2.size)⟩
      | exact ⟨ret_bool (by rw [Bool.or_eq_true, decide_eq_true_iff, decide_eq_true_iff]; exact .inr (HQ.out ‹f = 0› (by omega))), hb2.trans (Below.mono (by repeat (first | exact Kin.below _ | refine below_alloc ?_ _)) hb2.size)⟩

end Go.Proofs.YthnjbcdfcpchnaaDoor.dateMonths
