/- What lies in memory in netting.Net's loop. -/
import Derived.Test.YtgggekjhfdkgkaaNetB
import Derived.Laws.AppendOwn
import Derived.Lib.BufferWrite
import Derived.Deep.AppendLies
import Derived.OwnWalk
namespace Go.Proofs.Ytgggekjhfdkgkaa
open Go.RowKit Go.Shelf

theorem grown_below {w w' : World} (hb : Below w.heap.size w w') : w.grownBy w' none := ⟨hb.os, hb.tape, hb.output, hb.size, fun k hk _ => hb.block k hk⟩
theorem owns_below {w w' : World} {base : Nat} {e : TypeId} {s : Nat} {v : Value} {n : Nat} {xs : List Value} (h : w.ownsRow base e s v n xs) (hb : Below w.heap.size w w') : w'.ownsRow base e s v n xs :=
  h.kept (grown_below hb) (by cases v.ownBlock <;> simp)
theorem owns_set {w : World} {base : Nat} {e : TypeId} {s : Nat} {v : Value} {n : Nat} {xs : List Value} (h : w.ownsRow base e s v n xs) (B i : Nat) (u : Value) (hB : B < base) : (w.setCell ⟨B, i, none⟩ u).ownsRow base e s v n xs :=
  h.kept (Lib.grownBy_setCell w B i u) (by
    cases hv : v.ownBlock with
    | none => exact .inl rfl
    | some k =>
      have := (h.lt k hv).1
      exact .inr (fun e => by injection e with e; omega))

theorem cell_other {w : World} {b b' : Nat} (hne : b' ≠ b) (i j : Nat) (v : Value) : (w.setCell ⟨b', i, none⟩ v).cell? ⟨b, j, none⟩ = w.cell? ⟨b, j, none⟩ :=
  World.cell?_setCell_other w ⟨b', i, none⟩ ⟨b, j, none⟩ v (fun e => hne (by injection e))
theorem Own2.other {w : World} {B : Nat} {l : List (Int × Int)} (h : Own2 w B l) (b' i : Nat) (hne : b' ≠ B) (v : Value) : Own2 (w.setCell ⟨b', i, none⟩ v) B l := fun k hk => by
  obtain ⟨c0, c1, f0, f1⟩ := h k hk
  have e1 : ∀ (j : Nat), (w.setCell ⟨b', i, none⟩ v).frozen? ⟨B, j, none⟩ = w.frozen? ⟨B, j, none⟩ := fun j => by go_simp
  exact ⟨by rw [cell_other hne]; exact c0, by rw [cell_other hne]; exact c1, by rw [e1]; exact f0, by rw [e1]; exact f1⟩
theorem Own2.grown {w w' : World} {B : Nat} {l : List (Int × Int)} {row : Option Nat} (h : Own2 w B l) (hg : w.grownBy w' row) (hlt : B < w.heap.size) (hne : some B ≠ row) : Own2 w' B l := fun k hk => by
  obtain ⟨c0, c1, f0, f1⟩ := h k hk
  exact ⟨(hg.cell_far ⟨B, k * 2, none⟩ hlt hne).trans c0, (hg.cell_far ⟨B, k * 2 + 1, none⟩ hlt hne).trans c1, (hg.frozen_far ⟨B, k * 2, none⟩ hlt hne).trans f0, (hg.frozen_far ⟨B, k * 2 + 1, none⟩ hlt hne).trans f1⟩

theorem cell_newb (w : World) (cs : Array Value) (T : TypeId) (b j : Nat) (v : Value) (hb : w.heap.size = b) (h : cs[j]? = some v) : (w.alloc (.cells cs T)).cell? ⟨b, j, none⟩ = some v := by
  subst hb; exact cell_new w cs T j v h
theorem Own2.get {w : World} {B k : Nat} {l : List (Int × Int)} {x y : Int} (h : Own2 w B l) (hk : l[k]? = some (x, y)) :
    w.cell? ⟨B, k * 2, none⟩ = some (.int .i64 x) ∧ w.cell? ⟨B, k * 2 + 1, none⟩ = some (.int .i64 y) ∧ w.frozen? ⟨B, k * 2, none⟩ = false ∧ w.frozen? ⟨B, k * 2 + 1, none⟩ = false := by
  obtain ⟨h1, h2⟩ := List.getElem?_eq_some_iff.1 hk
  have := h k h1
  rw [h2] at this; exact this
theorem Box2.oth1 {w : World} {b b' : Nat} {n d : Int} (h : Box2 w b n d) (hne : b' ≠ b) (i : Nat) (v : Value) : Box2 (w.setCell ⟨b', i, none⟩ v) b n d := by
  obtain ⟨c0, c1, f0, f1⟩ := h
  have e1 : ∀ (j : Nat), (w.setCell ⟨b', i, none⟩ v).frozen? ⟨b, j, none⟩ = w.frozen? ⟨b, j, none⟩ := fun j => by go_simp
  exact ⟨by rw [cell_other hne]; exact c0, by rw [cell_other hne]; exact c1, by rw [e1]; exact f0, by rw [e1]; exact f1⟩
theorem Nt.add_rat {a b : Rat} (ha : Rt.fits a = true) (hb : Rt.fits b = true) : Rt.add a.num a.den b.num b.den = Rt.fit (a + b) := by
  unfold Rt.add; rw [if_pos ⟨Rt.ok_rat ha, Rt.ok_rat hb⟩, Rt.val_rat, Rt.val_rat]
theorem Nt.sub_rat {a b : Rat} (ha : Rt.fits a = true) (hb : Rt.fits b = true) : Rt.add a.num a.den (-b.num) b.den = Rt.fit (a - b) := by
  unfold Rt.add; rw [if_pos ⟨Rt.ok_rat ha, by rw [Rt.ok_neg]; exact Rt.ok_rat hb⟩, Rt.val_neg, Rt.val_rat, Rt.val_rat, Rat.sub_eq_add_neg]
theorem info_debt : ∃ i z, Try.prog.info? 38 = some i ∧ i.zero = some z ∧ i.size = 4 ∧ i.bytes = 32 ∧ z.cells.size = 4 := ⟨_, _, rfl, rfl, rfl, rfl, rfl⟩
/-- The row of what is left, its box, and the debts so far. -/
structure NetW (w0 : World) (n B bL : Nat) (wr : World) (qs : List (Int × Int)) (v : Value) (out : List Nt.Debt) : Prop where
  bel : Below w0.heap.size w0 wr
  lB : w0.heap.size ≤ B
  lL : B < bL
  lt : bL < wr.heap.size
  box : wr.cell? ⟨bL, 0, none⟩ = some (.slice (some ⟨B, 0, none⟩) n n)
  row : Own2 wr B qs
  own : wr.ownsRow (bL + 1) 38 4 v out.length (out.flatMap dcells)
theorem NetW.below {w0 wr w' : World} {n B bL : Nat} {qs : List (Int × Int)} {v : Value} {out : List Nt.Debt} (h : NetW w0 n B bL wr qs v out) (hb : Below wr.heap.size wr w') : NetW w0 n B bL w' qs v out :=
  ⟨h.bel.trans (hb.mono h.bel.size), h.lB, h.lL, Nat.lt_of_lt_of_le h.lt hb.size, (hb.cell (p := ⟨bL, 0, none⟩) h.lt).trans h.box, h.row.keep hb (Nat.lt_trans h.lL h.lt), owns_below h.own hb⟩
theorem NetW.set {w0 wr : World} {n B bL : Nat} {qs : List (Int × Int)} {v : Value} {out : List Nt.Debt} (h : NetW w0 n B bL wr qs v out) {k : Nat} (hk : k < qs.length) (x y : Int) :
    NetW w0 n B bL ((wr.setCell ⟨B, k * 2, none⟩ (.int .i64 x)).setCell ⟨B, k * 2 + 1, none⟩ (.int .i64 y)) (qs.set k (x, y)) v out :=
  ⟨(h.bel.setCell h.lB _).setCell h.lB _, h.lB, h.lL, by have := h.lt; simpa using this, by
    have hne : B ≠ bL := fun e => by have := h.lL; omega
    rw [cell_other hne, cell_other hne]; exact h.box, h.row.set hk x y, owns_set (owns_set h.own _ _ _ (by have := h.lL; omega)) _ _ _ (by have := h.lL; omega)⟩
theorem NetW.other {w0 wr : World} {n B bL : Nat} {qs : List (Int × Int)} {v : Value} {out : List Nt.Debt} (h : NetW w0 n B bL wr qs v out) (b : Nat) (hb : bL < b) (hv : v.ownBlock ≠ some b) (i : Nat) (u : Value) :
    NetW w0 n B bL (wr.setCell ⟨b, i, none⟩ u) qs v out :=
  ⟨h.bel.setCell (by show w0.heap.size ≤ b; have := h.lB; have := h.lL; omega) _, h.lB, h.lL, by have := h.lt; simpa using this, by
    rw [cell_other (by omega)]; exact h.box, h.row.other _ _ (by have := h.lL; omega) _, h.own.kept (Lib.grownBy_setCell wr b i u) (by
      cases hv' : v.ownBlock with
      | none => exact .inl rfl
      | some k => exact .inr (by rw [← hv']; exact hv))⟩
theorem NetW.app {w0 wr w' : World} {n B bL : Nat} {qs : List (Int × Int)} {v v' : Value} {out : List Nt.Debt} {x : Nt.Debt} (h : NetW w0 n B bL wr qs v out)
    (ho : w'.ownsRow (bL + 1) 38 4 v' (out.length + 1) (out.flatMap dcells ++ dcells x)) (hg : wr.grownBy w' v.ownBlock) : NetW w0 n B bL w' qs v' (out ++ [x]) := by
  have hne : ∀ b, b ≤ bL → some b ≠ v.ownBlock := fun b hb e => by have := (h.own.lt b e.symm).1; omega
  refine ⟨h.bel.grown hg h.bel.size (fun k hk => by have := (h.own.lt k hk).1; have := h.lB; have := h.lL; omega), h.lB, h.lL, Nat.lt_of_lt_of_le h.lt hg.size, (hg.cell_far ⟨bL, 0, none⟩ h.lt (hne bL (Nat.le_refl _))).trans h.box, h.row.grown hg (Nat.lt_trans h.lL h.lt) (hne B (by have := h.lL; omega)), ?_⟩
  rw [List.length_append, List.flatMap_append]
  simpa using ho
/-- The debts that were made, as a slice. -/
theorem owns_debts {w : World} {base : Nat} {v : Value} {out : List Nt.Debt} (h : w.ownsRow base 38 4 v out.length (out.flatMap dcells)) : ∃ A c, v = .slice A out.length c ∧ Debts w A out ∧ ∀ a, A = some a → base ≤ a.block := by
  obtain ⟨h1, h2⟩ := id h
  rcases h2 with ⟨hv, h0⟩ | ⟨g, cap, cur, hv, hb, _⟩
  · have : out = [] := List.length_eq_zero_iff.1 h0
    subst this
    exact ⟨none, 0, by rw [hv]; rfl, Row.nil _ _, fun a ha => by cases ha⟩
  · refine ⟨some ⟨g, 0, none⟩, cap, hv, fun _ => ⟨g, 0, rfl, fun j u hj => ?_⟩, fun a ha => by injection ha with ha; subst ha; exact hb⟩
    have := h.cells (g := g) (by rw [hv]; rfl) j u hj
    rw [Addr.add_lit] at this; exact this

theorem minus_any (n d : Int) (w : World) (h1 : -9223372036854775807 ≤ n) (h2 : n ≤ 9223372036854775807) :
    Calls Try.prog 30 #[.agg #[.int .i64 n, .int .i64 d]] w fun e w' => e = .returned (.agg #[.int .i64 (-n), .int .i64 d]) ∧ Below w.heap.size w w' := by
  go_enter Try.func30, Try.ntmps30
  go_wp2
  exact bodyPost_ret (v := .agg #[.int .i64 (-n), .int .i64 d]) (by simp [results, Try.results30, go_sem]) rfl ⟨rfl, below_alloc (below_alloc (Below.refl _ _) _) _⟩
end Go.Proofs.Ytgggekjhfdkgkaa
