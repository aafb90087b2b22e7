/- How debts given as arguments are opened. -/
import Derived.Test.YtgggekjhfdkgkaaGNetA
import Derived.Test.YtgggekjhfdkgkaaAbO
namespace Go.Proofs.Ytgggekjhfdkgkaa.Ab
open Go
theorem OpensA.map {P : Program} {t : TypeId} {α β : Type} {c : α → List AV} {ok : α → Prop} {c' : β → List AV} {ok' : β → Prop} (h : OpensA P t c ok) (f : α → β) (hc : ∀ x, c' (f x) = c x) (ho : ∀ x, ok x → ok' (f x)) : OpensA P t c' ok' := opA_map f hc ho h
theorem op_Ratio : OpensA Try.prog 34 cs_Ratio (fun x => i64B x.Num ∧ i64B x.Den) :=
  OpensA.map (opA_struct Try.underlying34 (by kernel_rfl)
    (opF_cons (k := 1) rfl (by kernel_rfl) (opA_i64 Try.underlying3) (opF_cons (k := 1) rfl (by kernel_rfl) (opA_i64 Try.underlying3) opF_nil))) (fun x => ⟨x.1, x.2.1⟩) (fun _ => rfl) (fun _ h => ⟨h.1, h.2.1⟩)
theorem op_Debt : OpensA Try.prog 38 cs_Debt i64D :=
  OpensA.map (opA_struct Try.underlying38 (by kernel_rfl)
    (opF_cons (k := 1) rfl (by kernel_rfl) (opA_i64 Try.underlying3) (opF_cons (k := 1) rfl (by kernel_rfl) (opA_i64 Try.underlying3) (opF_cons (k := 2) rfl (by kernel_rfl) op_Ratio opF_nil)))) (fun x => ⟨x.1, x.2.1, x.2.2.1⟩) (fun _ => rfl) (fun _ h => ⟨h.1, h.2.1, h.2.2.1.1, h.2.2.1.2⟩)
theorem op_Debts : OpensA Try.prog 22 (cL 4 cs_Debt) (fun l => l.length ≤ 9223372036854775807 ∧ ∀ x ∈ l, i64D x) :=
  opA_slice Try.underlying22 (by kernel_rfl) (by decide) (fun _ => rfl) (fun _ => rfl) op_Debt
end Go.Proofs.Ytgggekjhfdkgkaa.Ab
