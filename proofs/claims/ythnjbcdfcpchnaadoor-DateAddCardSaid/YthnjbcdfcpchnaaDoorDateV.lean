/- Contracts of date's functions on calendars, the results by name. -/
import Derived.Test.YthnjbcdfcpchnaaDoorDateHead
namespace Go.Proofs.YthnjbcdfcpchnaaDoor
open Go.RowKit Go.Shelf
variable (wk : Nat → Bool) (A : Option Addr) (hs : List Int) (c : Nat)
theorem next_val (d v e : Int) (w : World) (h : Hid (nextV wk hs d = v ∧ nextE wk hs d = e)) (hl : hs.length ≤ 9223372036854775807) (hh : Ints w A hs) :
    Calls Tryd.prog 14 #[.agg (cal wk A hs.length c), .int .i64 d] w fun e' w' => e' = ret2 v e ∧ Below w.heap.size w w' := by
  have k := next_all wk A hs c d w hl hh
  rw [h.out.1, h.out.2] at k; exact k
theorem add_val (d n v e : Int) (w : World) (h : Hid (addV wk hs d n = v ∧ addE wk hs d n = e)) (hl : hs.length ≤ 9223372036854775807) (hh : Ints w A hs) :
    Calls Tryd.prog 17 #[.agg (cal wk A hs.length c), .int .i64 d, .int .i64 n] w fun e' w' => e' = ret2 v e ∧ Below w.heap.size w w' := by
  have k := add_all wk A hs c d n w hl hh
  rw [h.out.1, h.out.2] at k; exact k
theorem count_val (a b v e : Int) (w : World) (h : Hid (cntV wk hs a b = v ∧ cntE wk hs a b = e)) (hl : hs.length ≤ 9223372036854775807) (hh : Ints w A hs) :
    Calls Tryd.prog 18 #[.agg (cal wk A hs.length c), .int .i64 a, .int .i64 b] w fun e' w' => e' = ret2 v e ∧ Below w.heap.size w w' := by
  have k := count_all wk A hs c a b w hl hh
  rw [h.out.1, h.out.2] at k; exact k
theorem biz_val (d : Int) (b : Bool) (w : World) (h : Hid (bizF wk hs d = b)) (hl : hs.length ≤ 9223372036854775807) (hh : Ints w A hs) :
    Calls Tryd.prog 16 #[.agg (cal wk A hs.length c), .int .i64 d] w fun e' w' => e' = .returned (.bool b) ∧ Below w.heap.size w w' := by
  have k := business_all wk A hs c d w hl hh
  rw [h.out] at k; exact k
theorem few_val (b : Bool) (w : World) (h : Hid (decide (hs.length ≤ 500) = b)) :
    Calls Tryd.prog 15 #[.agg (cal wk A hs.length c)] w fun e' w' => e' = .returned (.bool b) ∧ Below w.heap.size w w' := by
  have k := few_any wk A hs c w
  rw [h.out] at k; exact k
end Go.Proofs.YthnjbcdfcpchnaaDoor
