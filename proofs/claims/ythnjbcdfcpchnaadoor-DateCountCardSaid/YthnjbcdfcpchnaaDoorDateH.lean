/- The walk of the laws' own check on fixed examples. -/
import Derived.Test.YthnjbcdfcpchnaaDoorDateQ
import Derived.Test.YthnjbcdfcpchnaaDoorDateC
namespace Go.Proofs.YthnjbcdfcpchnaaDoor
open Go.RowKit Go.Shelf

/-- The weekend of the examples. -/
def wkE (i : Nat) : Bool := i == 5 || i == 6
theorem ints_new (w : World) (l : List Int) (T : TypeId) : Ints (w.alloc (.cells (l.map (Value.int .i64)).toArray T)) (some ⟨w.heap.size, 0, none⟩) l := by
  intro _
  refine ⟨w.heap.size, 0, rfl, fun j v hv => ?_⟩
  rw [World.cell?_alloc_at _ _ _ _ (by simp)]
  simpa using hv
theorem wv4 : Biz.valid wkE [4] = true := by decide
theorem e_next : nextV wkE [4] 4 = 7 ∧ nextE wkE [4] 4 = 0 := by
  have h := next_is wv4 (d := 4) (by decide) (by decide)
  have k := nth_is (Biz.nth_of (wk := wkE) (hs := [4]) (n := Biz.A wkE [4] 4) (r := 7) (by decide) (by decide) (by decide) (by decide) (by decide)) (by decide)
  rw [h.1, h.2]; exact k
theorem e_add1 : addV wkE [4] 3 1 = 7 ∧ addE wkE [4] 3 1 = 0 := by
  have h := add_is wv4 (d := 3) (n := 1) (by decide) (by decide) (by decide) (by decide)
  have k := nth_is (Biz.nth_of (wk := wkE) (hs := [4]) (n := Biz.A wkE [4] (3 + 1) + 1 - 1) (r := 7) (by decide) (by decide) (by decide) (by decide) (by decide)) (by decide)
  rw [h.1, h.2]; exact k
theorem e_addf : addV wkE [4] 3 100000 = 0 ∧ addE wkE [4] 3 100000 = 2 := add_isfar wv4 (by decide) (by decide) (by decide)
theorem e_count : cntV wkE [4] 0 8 = 5 ∧ cntE wkE [4] 0 8 = 0 := by
  have h := cnt_is wv4 (a := 0) (b := 8) (by decide) (by decide) (by decide)
  rw [h.1, h.2]; decide

variable (A : Option Addr) (c : Nat) (w : World)
theorem ex_next (hh : Ints w A [4]) : Calls Tryd.prog 14 #[.agg #[.bool false, .bool false, .bool false, .bool false, .bool false, .bool true, .bool true, .slice A 1 c], .int .i64 4] w fun e w' => e = ret2 7 0 ∧ Below w.heap.size w w' := by
  have h := next_all wkE A [4] c 4 w (by decide) hh
  rw [e_next.1, e_next.2] at h; exact h
theorem ex_add1 (hh : Ints w A [4]) : Calls Tryd.prog 17 #[.agg #[.bool false, .bool false, .bool false, .bool false, .bool false, .bool true, .bool true, .slice A 1 c], .int .i64 3, .int .i64 1] w fun e w' => e = ret2 7 0 ∧ Below w.heap.size w w' := by
  have h := add_all wkE A [4] c 3 1 w (by decide) hh
  rw [e_add1.1, e_add1.2] at h; exact h
theorem ex_addf (hh : Ints w A [4]) : Calls Tryd.prog 17 #[.agg #[.bool false, .bool false, .bool false, .bool false, .bool false, .bool true, .bool true, .slice A 1 c], .int .i64 3, .int .i64 100000] w fun e w' => e = ret2 0 2 ∧ Below w.heap.size w w' := by
  have h := add_all wkE A [4] c 3 100000 w (by decide) hh
  rw [e_addf.1, e_addf.2] at h; exact h
theorem ex_count (hh : Ints w A [4]) : Calls Tryd.prog 18 #[.agg #[.bool false, .bool false, .bool false, .bool false, .bool false, .bool true, .bool true, .slice A 1 c], .int .i64 0, .int .i64 8] w fun e w' => e = ret2 5 0 ∧ Below w.heap.size w w' := by
  have h := count_all wkE A [4] c 0 8 w (by decide) hh
  rw [e_count.1, e_count.2] at h; exact h
theorem ex_valid (hh : Ints w A [4]) : Calls Tryd.prog 20 #[.agg #[.bool false, .bool false, .bool false, .bool false, .bool false, .bool true, .bool true, .slice A 1 c]] w fun e w' => e = .returned (.bool true) ∧ Below w.heap.size w w' :=
  valid_is wkE A [4] c true w (by decide) (by decide) hh
theorem ex_valid2 (hh : Ints w A [4, 4]) : Calls Tryd.prog 20 #[.agg #[.bool false, .bool false, .bool false, .bool false, .bool false, .bool true, .bool true, .slice A 2 c]] w fun e w' => e = .returned (.bool false) ∧ Below w.heap.size w w' :=
  valid_is wkE A [4, 4] c false w (by decide) (by decide) hh
theorem ex_biz3 (hh : Ints w A [4]) : Calls Tryd.prog 16 #[.agg #[.bool false, .bool false, .bool false, .bool false, .bool false, .bool true, .bool true, .slice A 1 c], .int .i64 3] w fun e w' => e = .returned (.bool true) ∧ Below w.heap.size w w' :=
  business_all wkE A [4] c 3 w (by decide) hh
theorem ex_biz4 (hh : Ints w A [4]) : Calls Tryd.prog 16 #[.agg #[.bool false, .bool false, .bool false, .bool false, .bool false, .bool true, .bool true, .slice A 1 c], .int .i64 4] w fun e w' => e = .returned (.bool false) ∧ Below w.heap.size w w' :=
  business_all wkE A [4] c 4 w (by decide) hh
theorem ex_biz5 : Calls Tryd.prog 16 #[.agg #[.bool false, .bool false, .bool false, .bool false, .bool false, .bool true, .bool true, .slice A 0 c], .int .i64 5] w fun e w' => e = .returned (.bool false) ∧ Below w.heap.size w w' :=
  business_all wkE A [] c 5 w (by decide) (Row.nil _ _)
theorem ex_months (ht : Table w) (hz : 0 < w.heap.size) : Calls Tryd.prog 13 #[.int .i64 30, .int .i64 1] w fun e w' => e = ret2 58 0 ∧ Below w.heap.size w w' :=
  months_ok 1990 1 31 30 1 w (by decide) (by decide) (by decide) (by decide) (by decide) (by decide) ht hz
theorem week_any (n : Nat) : Calls Tryd.prog 19 #[.slice A n c] w fun e w' => e = .returned (.agg #[.bool false, .bool false, .bool false, .bool false, .bool false, .bool true, .bool true, .slice A n c]) ∧ Below w.heap.size w w' := by
  go_enter Tryd.func19, Tryd.ntmps19
  go_wp2
  exact bodyPost_ret (v := .agg #[.bool false, .bool false, .bool false, .bool false, .bool false, .bool true, .bool true, .slice A n c]) (by simp [results, Tryd.results19, go_sem]) rfl ⟨rfl, (Below.refl _ _).alloc (Nat.le_refl _) _⟩
end Go.Proofs.YthnjbcdfcpchnaaDoor
