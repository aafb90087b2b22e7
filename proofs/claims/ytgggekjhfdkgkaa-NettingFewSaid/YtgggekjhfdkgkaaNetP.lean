/- The walk of netting.Positions. -/
import Derived.Test.YtgggekjhfdkgkaaNetI
import Derived.Laws.MakeOwn
import Derived.Laws.Entries
namespace Go.Proofs.Ytgggekjhfdkgkaa
open Go.RowKit Go.Shelf

/-- A block of pairs of numbers that may be written. -/
def Own2 (w : World) (B : Nat) (l : List (Int × Int)) : Prop :=
  ∀ k, (h : k < l.length) → w.cell? ⟨B, k * 2, none⟩ = some (.int .i64 l[k].1) ∧ w.cell? ⟨B, k * 2 + 1, none⟩ = some (.int .i64 l[k].2) ∧ w.frozen? ⟨B, k * 2, none⟩ = false ∧ w.frozen? ⟨B, k * 2 + 1, none⟩ = false
theorem Own2.keep {w w' : World} {B n : Nat} {l : List (Int × Int)} (h : Own2 w B l) (hb : Below n w w') (lt : B < n) : Own2 w' B l := fun k hk => by
  obtain ⟨c0, c1, f0, f1⟩ := h k hk
  exact ⟨(hb.cell (p := ⟨B, k * 2, none⟩) lt).trans c0, (hb.cell (p := ⟨B, k * 2 + 1, none⟩) lt).trans c1, (hb.frozen (p := ⟨B, k * 2, none⟩) lt).trans f0, (hb.frozen (p := ⟨B, k * 2 + 1, none⟩) lt).trans f1⟩
theorem Own2.set {w : World} {B : Nat} {l : List (Int × Int)} (h : Own2 w B l) {k : Nat} (hk : k < l.length) (x y : Int) :
    Own2 ((w.setCell ⟨B, k * 2, none⟩ (.int .i64 x)).setCell ⟨B, k * 2 + 1, none⟩ (.int .i64 y)) B (l.set k (x, y)) := fun j hj => by
  rw [List.length_set] at hj
  obtain ⟨c0, c1, f0, f1⟩ := h j hj
  obtain ⟨d0, d1, g0, g1⟩ := h k hk
  by_cases hjk : j = k
  · subst hjk
    rw [List.getElem_set_self]
    refine ⟨?_, ?_, ?_, ?_⟩ <;> go_simp
  · rw [List.getElem_set_ne (fun e => hjk e.symm)]
    have e0 : ∀ (w : World) (i j : Nat) (v : Value), i ≠ j → (w.setCell ⟨B, i, none⟩ v).cell? ⟨B, j, none⟩ = w.cell? ⟨B, j, none⟩ := fun w i j v hne =>
      World.cell?_setCell_other w ⟨B, i, none⟩ ⟨B, j, none⟩ v (fun e => hne (by injection e))
    have e1 : ∀ (w : World) (i j : Nat) (v : Value), (w.setCell ⟨B, i, none⟩ v).frozen? ⟨B, j, none⟩ = w.frozen? ⟨B, j, none⟩ := fun w i j v => by go_simp
    exact ⟨by rw [e0 _ _ _ _ (by omega), e0 _ _ _ _ (by omega)]; exact c0, by rw [e0 _ _ _ _ (by omega), e0 _ _ _ _ (by omega)]; exact c1, by rw [e1, e1]; exact f0, by rw [e1, e1]; exact f1⟩
theorem made2 (z : Value) (n i : Nat) (h : i < n * 2) : (madeCells #[z, z] (n * 2))[i]? = some z := by
  have e : i % 2 = 0 ∨ i % 2 = 1 := by omega
  unfold madeCells
  rw [Array.getElem?_map, Array.getElem?_range, if_pos h]
  rcases e with e | e <;> simp [e]
theorem Own2.new (w : World) (n : Nat) (T : TypeId) : Own2 (w.alloc (.cells (madeCells #[.int .i64 0, .int .i64 0] (n * 2)) T)) w.heap.size (List.replicate n (0, 0)) := fun k hk => by
  rw [List.length_replicate] at hk
  rw [List.getElem_replicate]
  have hs : (madeCells #[.int .i64 0, .int .i64 0] (n * 2)).size = n * 2 := size_madeCells _ _
  refine ⟨?_, ?_, ?_, ?_⟩
  · rw [World.cell?_alloc_at _ _ _ _ rfl]; exact made2 _ _ _ (by omega)
  · rw [World.cell?_alloc_at _ _ _ _ rfl]; exact made2 _ _ _ (by omega)
  · go_simp
  · go_simp
abbrev pr (r : Rat) : Int × Int := (r.num, (r.den : Int))

theorem sgnP_any (x : Nt.Debt) (p : Int) (b : Nat) (w : World) (c0 : w.cell? ⟨b, 0, none⟩ = some (.int .i64 p)) :
    Calls Try.prog 27 #[dval x, .pointer (some ⟨b, 0, none⟩)] w fun e w' => e = .returned (.int .i64 (Nt.sgnP p x)) ∧ Below w.heap.size w w' := by
  have l1 := World.block_lt_of_cell? w _ c0
  have hb1 : Below w.heap.size w (w.alloc (.cells #[.int .i64 x.f, .int .i64 x.t, .int .i64 x.n, .int .i64 x.d] 38)) := below_alloc (Below.refl _ _) _
  have P0 : (w.alloc (.cells #[.int .i64 x.f, .int .i64 x.t, .int .i64 x.n, .int .i64 x.d] 38)).cell? ⟨b, 0, none⟩ = some (.int .i64 p) := (Kin.mk _ hb1).cell c0
  by_cases h1 : p = x.t
  · have g1 : (p == x.t) = true := by simpa using h1
    have hr : Nt.sgnP p x = 1 := by unfold Nt.sgnP; rw [if_pos h1]
    have HR := Lib.hid hr
    clear hr h1
    go_enter Try.func27, Try.ntmps27
    go_wp2
    go_ret
    exact ⟨ret_int HR.out.symm, hb1⟩
  by_cases h2 : p = x.f
  · have g1 : (p == x.t) = false := by simpa using h1
    have g2 : (p == x.f) = true := by simpa using h2
    have hr : Nt.sgnP p x = -1 := by unfold Nt.sgnP; rw [if_neg h1, if_pos h2]
    have HR := Lib.hid hr
    clear hr h1 h2
    go_enter Try.func27, Try.ntmps27
    go_wp2
    go_ret
    exact ⟨ret_int HR.out.symm, hb1⟩
  · have g1 : (p == x.t) = false := by simpa using h1
    have g2 : (p == x.f) = false := by simpa using h2
    have hr : Nt.sgnP p x = 0 := by unfold Nt.sgnP; rw [if_neg h1, if_neg h2]
    have HR := Lib.hid hr
    clear hr h1 h2
    go_enter Try.func27, Try.ntmps27
    go_wp2
    go_ret
    exact ⟨ret_int HR.out.symm, hb1⟩
end Go.Proofs.Ytgggekjhfdkgkaa
