/- From an abstract contract to the call itself; debts as arguments. -/
import Derived.Test.YtgggekjhfdkgkaaAbV
import Derived.Test.YtgggekjhfdkgkaaOpen
import Derived.Test.YtgggekjhfdkgkaaFrameU
namespace Go.Proofs.Ytgggekjhfdkgkaa.Ab
open Go Go.RowKit Go.Shelf Go.ChangeShapes Go.WideShapes Go.ChangeAt
theorem spec_run {P : Program} {f : FuncId} {args : List AV} {u : Value} (h : Spec P f args [] 0 (.s u) [] 0) {W : World} {vs : Array Value} (hr : RepA W (fun _ => False) (fun _ => (0, 0)) 0 args vs) :
    Calls P f vs W fun e w' => e = .returned u ∧ Below W.heap.size W w' := by
  have hno : ∀ i, ¬ Lv [] (fun _ => ((0 : Nat), (0 : Nat))) i := fun i ⟨b, k, hb, _⟩ => by cases hb
  refine (h.2 W (fun _ => False) (fun _ => (0, 0)) vs ⟨rfl, rfl, rfl, Nat.le_refl _, fun _ _ _ => rfl, fun _ _ => ⟨id, fun h _ => h⟩, fun _ _ => rfl, Nat.le_refl _, fun _ h => h.elim, (fun b k hg => by cases hg), (fun b k hg => by cases hg), (fun b b' k k' hg => by cases hg)⟩ hr).mono fun e w' ⟨v, S', m', h1, h2, h3⟩ => ?_
  have := rep_s h3
  subst this
  exact ⟨h1, h2.os, h2.tape, h2.output, h2.size, fun k hk => h2.keep k hk (hno k)⟩
theorem repA_two {w : World} {S : Nat → Prop} {m : Nat → Nat × Nat} {nx : Nat} {x y : AV} {u v : Value} (h1 : Rep w S m nx x u) (h2 : Rep w S m nx y v) : RepA w S m nx [x, y] #[u, v] :=
  ⟨rfl, fun j a b ha hb => by
    match j with
    | 0 => simp at ha hb; subst ha; subst hb; exact h1
    | 1 => simp at ha hb; subst ha; subst hb; exact h2
    | j + 2 => simp at ha⟩
/-- An argument that is a list of debts. -/
theorem open_debts {H : Type} {enc : TypeId × Value → H} {w : World} {r : Reach} {b0 base : Nat} {spare : Nat → Bool} {held : Bool} {v : Value} {d : DataW H} {ps : List MemPlace}
    (hv : Value.okWide Try.prog w r b0 22 v) (hd : DataW.Trod enc Try.prog w base spare held 22 v d ps) :
    ∃ (l : List Nt.Debt) (A : Option Addr) (c : Nat), v = .slice A l.length c ∧ Debts w A l ∧ l.length ≤ 9223372036854775807 ∧ i64s l := by
  have ratio_opens := opens_struct Try.underlying34 (by kernel_rfl)
    (opensFrom_cons (k := 1) rfl (by kernel_rfl) (opens_i64 Try.underlying3) (opensFrom_cons (k := 1) rfl (by kernel_rfl) (opens_i64 Try.underlying3) opensFrom_nil))
  have debt_opens := opens_struct Try.underlying38 (by kernel_rfl)
    (opensFrom_cons (k := 1) rfl (by kernel_rfl) (opens_i64 Try.underlying3) (opensFrom_cons (k := 1) rfl (by kernel_rfl) (opens_i64 Try.underlying3) (opensFrom_cons (k := 2) rfl (by kernel_rfl) ratio_opens opensFrom_nil)))
  obtain ⟨s, rfl, hrow, hlc, hcap, hx⟩ := open_sl Try.underlying22 (opens_slice Try.underlying22 (C := 4) (by kernel_rfl) (by decide) (fun _ => rfl) debt_opens) hv hd
  refine ⟨s.l.map (fun x => ⟨x.1, x.2.1, x.2.2.1.1, x.2.2.1.2.1⟩), s.A, s.cap, by simp, ?_, by simp; omega, fun x hx' => ?_⟩
  · unfold Debts
    rw [List.flatMap_map]
    exact hrow
  · obtain ⟨y, hy, rfl⟩ := List.mem_map.1 hx'
    exact (hx y hy).2.2.1.1
end Go.Proofs.Ytgggekjhfdkgkaa.Ab
