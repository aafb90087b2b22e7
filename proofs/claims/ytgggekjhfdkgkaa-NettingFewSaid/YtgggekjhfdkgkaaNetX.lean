/- The index into an array's value. -/
import Derived.Test.YtgggekjhfdkgkaaNetC
import Derived.Deep.MidRow
namespace Go.Proofs.Ytgggekjhfdkgkaa
open Go.RowKit Go.Shelf

theorem idx_grid (cs : Array Value) (r : Nat) (hr : r < 12) (w : World) : (Instr.index 49 (.agg cs) (.int .i64 (r : Int))).run Try.prog w = .ok (.agg (cs.extract (r * 24) (r * 24 + 24))) w := by
  have hu : Try.prog.underlying 49 = some (.array 12 47) := rfl
  have hu2 : Try.prog.underlying 47 = some (.array 12 34) := rfl
  have h1 : (0 : Int) ≤ r ∧ (r : Int) < 12 := by omega
  unfold Instr.index
  simp [go_sem, hu, h1]
  intro h; omega
theorem idx_row (cs : Array Value) (r : Nat) (hr : r < 12) (w : World) : (Instr.index 47 (.agg cs) (.int .i64 (r : Int))).run Try.prog w = .ok (.agg (cs.extract (r * 2) (r * 2 + 2))) w := by
  have hu2 : Try.prog.underlying 47 = some (.array 12 34) := rfl
  have h1 : (0 : Int) ≤ r ∧ (r : Int) < 12 := by omega
  unfold Instr.index
  simp [go_sem, hu2, h1]
  intro h; omega
/-- The cells of a list of pairs. -/
abbrev pcells (G : List (Int × Int)) : List Value := G.flatMap fun q => [Value.int .i64 q.1, Value.int .i64 q.2]
theorem pcells_len (G : List (Int × Int)) : (pcells G).length = G.length * 2 := by
  induction G with
  | nil => rfl
  | cons q G ih => simp only [pcells, List.flatMap_cons, List.length_append, List.length_cons, List.length_nil] at ih ⊢; omega
theorem pcells_get (G : List (Int × Int)) (k : Nat) (q : Int × Int) (h : G[k]? = some q) : (pcells G)[k * 2]? = some (.int .i64 q.1) ∧ (pcells G)[k * 2 + 1]? = some (.int .i64 q.2) := by
  induction G generalizing k with
  | nil => simp at h
  | cons p G ih =>
    cases k with
    | zero => simp at h; subst h; exact ⟨rfl, rfl⟩
    | succ k =>
      have := ih k (by simpa using h)
      rw [show (k + 1) * 2 = k * 2 + 1 + 1 by omega]
      exact this
theorem pcells_one (G : List (Int × Int)) : ∀ v ∈ pcells G, v.oneCell' = true := fun v hv => by
  obtain ⟨q, _, h⟩ := List.mem_flatMap.1 hv
  simp at h
  rcases h with rfl | rfl <;> rfl
theorem Own2.range {w : World} {B : Nat} {G : List (Int × Int)} (h : Own2 w B G) : w.rangeAt B 0 (pcells G) := fun j v hv => by
  have hj : j < G.length * 2 := by rw [← pcells_len]; exact (List.getElem?_eq_some_iff.1 hv).1
  have hk : j / 2 < G.length := by omega
  obtain ⟨c0, c1, _, _⟩ := h (j / 2) hk
  obtain ⟨g0, g1⟩ := pcells_get G (j / 2) G[j / 2] (List.getElem?_eq_getElem hk)
  rw [Nat.zero_add]
  rcases (by omega : j = j / 2 * 2 ∨ j = j / 2 * 2 + 1) with e | e
  · rw [← e] at c0 g0; rw [c0, ← g0]; exact hv
  · rw [← e] at c1 g1; rw [c1, ← g1]; exact hv
theorem row_pair (G : List (Int × Int)) (a b : Nat) (q : Int × Int) (hb : b < 12) (h : G[a * 12 + b]? = some q) : ((pcells G).toArray.extract (a * 24) (a * 24 + 24)).extract (b * 2) (b * 2 + 2) = #[.int .i64 q.1, .int .i64 q.2] := by
  obtain ⟨g0, g1⟩ := pcells_get G _ q h
  rw [show (a * 12 + b) * 2 = a * 24 + b * 2 by omega] at g0 g1
  have hl : a * 24 + b * 2 + 1 < (pcells G).length := (List.getElem?_eq_some_iff.1 g1).1
  apply Array.ext_getElem?
  intro i
  have hs : (pcells G).toArray.size = (pcells G).length := by simp
  rw [Array.getElem?_extract, Array.getElem?_extract, Array.size_extract, hs, List.getElem?_toArray]
  rcases (by omega : i = 0 ∨ i = 1 ∨ 2 ≤ i) with rfl | rfl | hi
  · rw [if_pos (by omega), if_pos (by omega), show a * 24 + (b * 2 + 0) = a * 24 + b * 2 by omega, g0]; rfl
  · rw [if_pos (by omega), if_pos (by omega), show a * 24 + (b * 2 + 1) = a * 24 + b * 2 + 1 by omega, g1]; rfl
  · rw [if_neg (by omega)]; symm; exact Array.getElem?_eq_none (by simpa using hi)
theorem grown_trans {a b c : World} {row : Option Nat} (h : a.grownBy b row) (k : b.grownBy c row) : a.grownBy c row :=
  ⟨k.os.trans h.os, k.tape.trans h.tape, k.output.trans h.output, Nat.le_trans h.size k.size, fun i hi hne => (k.block i (Nat.lt_of_lt_of_le hi h.size) hne).trans (h.block i hi hne)⟩
theorem grown_setCells (b : Nat) : ∀ (vs : List Value) (o : Nat) (w : World), w.grownBy (w.setCells b o vs) (some b)
  | [], _, w => World.grownBy.refl w _
  | v :: vs, o, w => grown_trans (Lib.grownBy_setCell w b o v) (grown_setCells b vs (o + 1) (w.setCell ⟨b, o, none⟩ v))
theorem Nt.grid_end (l : List Nt.Debt) (n k : Nat) (hk : k < 144) : (Nt.grid l n n (n + 1))[k]? = some (Nt.gv l n (k / 12) (k % 12)) := by
  rw [Nt.grid_get _ _ _ _ _ hk]
  by_cases h : k / 12 < n ∨ k / 12 = n ∧ k % 12 < n + 1
  · rw [if_pos h]
  · rw [if_neg h]; unfold Nt.gv; rw [if_neg (by omega)]
theorem Nt.gv_bd (l : List Nt.Debt) (n i j : Nat) : (Nt.gv l n i j).1.natAbs ≤ 1000000000000 := by
  unfold Nt.gv
  split
  · cases h : Nt.pair l i j with
    | none => simp
    | some r => exact (Rt.fits_iff.1 (Nt.sumO_fits Nt.zero_fits h)).1
  · simp
end Go.Proofs.Ytgggekjhfdkgkaa
