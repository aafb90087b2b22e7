/- The seat's laid global, and how ratios given as arguments are opened. -/
import Derived.Test.YtdfokoapenhalaaDoorAbO
import Derived.Test.YtdfokoapenhalaaDoorGRatQ
import Derived.Test.YtdfokoapenhalaaDoorDq17
namespace Go.Proofs.YtdfokoapenhalaaDoor.Ab
open Go Go.ChangeShapes
theorem OpensA.map {P : Program} {t : TypeId} {α β : Type} {c : α → List AV} {ok : α → Prop} {c' : β → List AV} {ok' : β → Prop} (h : OpensA P t c ok) (f : α → β) (hc : ∀ x, c' (f x) = c x) (ho : ∀ x, ok x → ok' (f x)) : OpensA P t c' ok' := opA_map f hc ho h
theorem op_Ratio : OpensA Tryd.prog 31 cs_Ratio (fun x => i64B x.Num ∧ i64B x.Den) :=
  OpensA.map (opA_struct Tryd.underlying31 (by kernel_rfl)
    (opF_cons (k := 1) rfl (by kernel_rfl) (opA_i64 Tryd.underlying3) (opF_cons (k := 1) rfl (by kernel_rfl) (opA_i64 Tryd.underlying3) opF_nil))) (fun x => ⟨x.1, x.2.1⟩) (fun _ => rfl) (fun _ h => ⟨h.1, h.2.1⟩)
theorem op_Ratios : OpensA Tryd.prog 24 (cL 2 cs_Ratio) (fun l => l.length ≤ 9223372036854775807 ∧ ∀ x ∈ l, i64B x.Num ∧ i64B x.Den) :=
  opA_slice Tryd.underlying24 (by kernel_rfl) (by decide) (fun _ => rfl) (fun _ => rfl) op_Ratio
theorem op_Amount : OpensA Tryd.prog 33 cs_Amount (fun x => i64B x.Unit ∧ i64B x.Value.Num ∧ i64B x.Value.Den) :=
  OpensA.map (opA_struct Tryd.underlying33 (by kernel_rfl)
    (opF_cons (k := 1) rfl (by kernel_rfl) (opA_i64 Tryd.underlying3) (opF_cons (k := 2) rfl (by kernel_rfl) op_Ratio opF_nil))) (fun x => ⟨x.1, x.2.1⟩) (fun _ => rfl) (fun _ h => ⟨h.1, h.2.1⟩)
theorem op_Amounts : OpensA Tryd.prog 23 (cL 3 cs_Amount) (fun l => l.length ≤ 9223372036854775807 ∧ ∀ x ∈ l, i64B x.Unit ∧ i64B x.Value.Num ∧ i64B x.Value.Den) :=
  opA_slice Tryd.underlying23 (by kernel_rfl) (by decide) (fun _ => rfl) (fun _ => rfl) op_Amount
theorem op_Unit : OpensA Tryd.prog 42 cs_Unit (fun x => i64B x.Kind ∧ i64B x.Base ∧ i64B x.Factor.Num ∧ i64B x.Factor.Den) :=
  OpensA.map (opA_struct Tryd.underlying42 (by kernel_rfl)
    (opF_cons (k := 1) rfl (by kernel_rfl) (opA_string Tryd.underlying9) (opF_cons (k := 1) rfl (by kernel_rfl) (opA_i64 Tryd.underlying3) (opF_cons (k := 1) rfl (by kernel_rfl) (opA_i64 Tryd.underlying3) (opF_cons (k := 2) rfl (by kernel_rfl) op_Ratio opF_nil))))) (fun x => ⟨x.1, x.2.1, x.2.2.1, x.2.2.2.1⟩) (fun _ => rfl) (fun _ h => ⟨h.2.1, h.2.2.1, h.2.2.2.1⟩)
theorem op_Units : OpensA Tryd.prog 22 (cL 5 cs_Unit) (fun l => l.length ≤ 9223372036854775807 ∧ ∀ x ∈ l, i64B x.Kind ∧ i64B x.Base ∧ i64B x.Factor.Num ∧ i64B x.Factor.Den) :=
  opA_slice Tryd.underlying22 (by kernel_rfl) (by decide) (fun _ => rfl) (fun _ => rfl) op_Unit
theorem gWhole : Tryd.prog.globalNamed "estoppel/quantity.whole" = some 0 := by kernel_rfl
theorem gWholeType : (Tryd.prog.globals[0]?).map (·.type) = some 31 := by kernel_rfl
theorem laid_globs {W : World} (h : laidMetH Tryd.prog [("estoppel/quantity.whole", Rows.laid_estoppel_quantity_whole)] W) : Globs W (Lv [] m0_) none_ := by
  obtain ⟨ps, ⟨g', t', cs, fuel, p, q, hg', ht', hvar, hd, _, _⟩, _⟩ := h
  obtain rfl := Option.some.inj (gWhole.symm.trans hg')
  obtain rfl := Option.some.inj (gWholeType.symm.trans ht')
  obtain ⟨y0, y1, n, hy, hl, h0, h1⟩ := trod_struct2 Tryd.underlying31 hd
  obtain ⟨z0, e0, f0, _⟩ := DataW.trod_int Tryd.underlying3 h0
  obtain ⟨z1, e1, f1, _⟩ := DataW.trod_int Tryd.underlying3 h1
  subst f0; subst f1
  have hy := congrArg Prod.fst hy
  unfold Rows.laid_estoppel_quantity_whole at hy
  simp only [DataW.agg.injEq, List.cons.injEq, DataW.lit.injEq, Lit.int.injEq, true_and, and_true] at hy
  obtain ⟨rfl, rfl⟩ := hy
  have hcell := fun i => World.var?_cell gWhole hvar i
  have hl : cs.toList.length = 2 := hl.trans (by kernel_rfl)
  have hc : cs = #[Value.int .i64 1, Value.int .i64 1] := by
    have k1 : Tryd.prog.cellsOf 3 = 1 := by kernel_rfl
    obtain ⟨cs⟩ := cs
    match cs, hl with
    | [a, b], _ =>
      simp only [k1] at e0 e1
      simp at e0 e1
      rw [e0, e1]
  subst hc
  intro g c hg
  unfold globTab get at hg
  split at hg
  · rename_i e
    subst e
    obtain rfl := Option.some.inj hg
    refine ⟨World.block_lt_of_cell? W ⟨0, 0, none⟩ (hcell 0), (fun ⟨b, k, hb, _⟩ => by cases hb), (fun h => h), fun j v hv => ?_⟩
    rw [← hv, hcell j]; simp
  · cases hg
theorem head_true : g_estoppellaw04_head = some true := by kernel_rfl
end Go.Proofs.YtdfokoapenhalaaDoor.Ab
