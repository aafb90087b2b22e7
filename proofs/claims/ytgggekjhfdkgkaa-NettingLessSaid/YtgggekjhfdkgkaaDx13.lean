/- Functions of the program as plain functions (printed by wip/dec.py). -/
import Derived.Test.YtgggekjhfdkgkaaDx8
import Derived.Test.YtgggekjhfdkgkaaDx9
namespace Go.Proofs.Ytgggekjhfdkgkaa.Ab
open Go Go.RowKit Go.Shelf
/-- estoppel/estoppelref42.Same -/
def g_estoppelref42_Same (a1 : List D.Debt) (a2 : List D.Debt) : Option (Bool) :=
  if ((a1.length : Int) != (a2.length : Int)) = true then
  some false
  else
  bindF (ρ := Unit) (
  loopO (σ := Int) (fun s_32598 =>
  if (decide (s_32598 < (a1.length : Int))) = true then
  (getI a1 s_32598).bind fun x_32639 =>
  (getI a2 s_32598).bind fun x_32643 =>
  if (decide (x_32639 ≠ x_32643)) = true then
  some (.inr (.inr false))
  else
  some (.inl (IntKind.i64.wrap (s_32598 + 1)))
  else
  some (.inr (.inl ()))) 0) (fun (e_32503 : Unit) =>
  some true)
set_option maxHeartbeats 4000000 in
theorem g_estoppelref42_Same_ok {a1 : List D.Debt} {a2 : List D.Debt} {res : Bool} (h : g_estoppelref42_Same a1 a2 = some res) : SpecK Try.prog [] 19 [sl 4 cs_Debt a1, sl 4 cs_Debt a2] [] 0 (B res) [] 0 := by
  refine ⟨spec_of_wp Try.func19 (by kernel_rfl) rfl Try.ntmps19 (by rw [Try.results19]) (leB rfl) ?_, by kernel_rfl, trivial, by kernel_rfl, trivial, by kernel_rfl⟩
  unfold g_estoppelref42_Same at h
  refine w_reg ⟨[(0, sl 4 cs_Debt a1), (1, sl 4 cs_Debt a2)], [], 0⟩ (by kernel_rfl) (leB rfl) ?_
  refine w_assoc ?_
  refine w_seq (fun K hK_32361 => w_reg0 ?_)
  refine dd_run 0 1 rfl (by kernel_rfl) ?_
  refine dd_one 1 (.call ⟨.builtin .len, #[(.tmp 6)], #[22]⟩) (some 7) (by kernel_rfl) (o_pure (I (a1.length : Int)) (ev_len_sl (e := 38) (ty := 0) (k := 4) (c := cs_Debt) (by kernel_rfl) (by kernel_rfl)) rfl) ?_
  refine dd_run 2 3 rfl (by kernel_rfl) ?_
  refine dd_one 3 (.call ⟨.builtin .len, #[(.tmp 8)], #[22]⟩) (some 9) (by kernel_rfl) (o_pure (I (a2.length : Int)) (ev_len_sl (e := 38) (ty := 0) (k := 4) (c := cs_Debt) (by kernel_rfl) (by kernel_rfl)) rfl) ?_
  refine ops_fin' hK_32361 ⟨[(0, sl 4 cs_Debt a1), (1, sl 4 cs_Debt a2), (10, B ((a1.length : Int) != (a2.length : Int)))], [], 0⟩ (by kernel_rfl) (leB rfl) ?_
  refine w_seq (fun K hK_32363 => ?_)
  refine w_ite h (by kernel_rfl) (fun h_32364 h => ?_) (fun h_32364 h => ?_)
  · refine w_reg ⟨[(4, B false)], [], 0⟩ (by kernel_rfl) (leB rfl) ?_
    refine w_ret ?_
    obtain rfl := ((Option.some.inj h).symm).symm
    exact ret_leaf (.inl rfl) ⟨[(4, B false)], [], 0⟩ (to_ren [] (leB rfl) (by kernel_rfl) (by kernel_rfl) (renE_of (by kernel_rfl) (by kernel_rfl)) trivial) [B false] (by kernel_rfl) (by kernel_rfl) (leB rfl) (by kernel_rfl) trivial
  · refine w_skip ?_
    refine hK_32363 _ ⟨[(0, sl 4 cs_Debt a1), (1, sl 4 cs_Debt a2)], [], 0⟩ (to_trim (by kernel_rfl) (leB rfl)) ?_
    refine w_assoc ?_
    refine w_reg ⟨[(0, sl 4 cs_Debt a1), (1, sl 4 cs_Debt a2), (5, I 0)], [], 0⟩ (by kernel_rfl) (leB rfl) ?_
    refine w_cut h (fun (e_32503 : Unit) => ⟨[], [], 0⟩) (fun o h h_32504 K hK_32505 => ?_) (fun e_32503 h => ?_)
    · refine w_block ?_
      refine w_loopO h (fun (s_32598 : Int) => ⟨[(0, sl 4 cs_Debt a1), (1, sl 4 cs_Debt a2), (5, I s_32598)], [], 0⟩) (to_ren [] (leB rfl) (by kernel_rfl) (by kernel_rfl) (renE_of (by kernel_rfl) (by kernel_rfl)) trivial) (fun s_32598 o h h_32599 K hK_32600 => ?_)
      · refine w_assoc ?_
        refine w_seq (fun K hK_32601 => w_reg0 ?_)
        refine dd_run 0 2 rfl (by kernel_rfl) ?_
        refine dd_one 2 (.call ⟨.builtin .len, #[(.tmp 12)], #[22]⟩) (some 13) (by kernel_rfl) (o_pure (I (a1.length : Int)) (ev_len_sl (e := 38) (ty := 0) (k := 4) (c := cs_Debt) (by kernel_rfl) (by kernel_rfl)) rfl) ?_
        refine ops_fin' hK_32601 ⟨[(0, sl 4 cs_Debt a1), (1, sl 4 cs_Debt a2), (5, I s_32598), (14, B (decide (s_32598 < (a1.length : Int))))], [], 0⟩ (by kernel_rfl) (leB rfl) ?_
        refine w_seq (fun K hK_32603 => ?_)
        refine w_ite h (by kernel_rfl) (fun h_32604 h => ?_) (fun h_32604 h => ?_)
        · refine w_skip ?_
          refine hK_32603 _ ⟨[(0, sl 4 cs_Debt a1), (1, sl 4 cs_Debt a2), (5, I s_32598)], [], 0⟩ (to_trim (by kernel_rfl) (leB rfl)) ?_
          refine w_seq (fun K hK_32625 => ?_)
          refine w_block ?_
          refine w_seq (fun K hK_32636 => w_mix0 (by kernel_rfl) (by kernel_rfl) ?_)
          refine mm_run 0 2 rfl (by kernel_rfl) ?_
          obtain ⟨x_32639, h_32640, h⟩ := bind_some' h
          refine mm_one 2 (.indexAddr 22 (.tmp 17) (.tmp 18)) (some 19) (by kernel_rfl) (by kernel_rfl) (oH_pure (.ip (cs_Debt x_32639)) (ev_idx_sl (e := 38) (k := 4) (c := cs_Debt) (ik := .i64) h_32640 (by kernel_rfl) (by kernel_rfl) (by kernel_rfl) (by kernel_rfl)) rfl) ?_
          refine mm_run 3 6 rfl (by kernel_rfl) ?_
          obtain ⟨x_32643, h_32644, h⟩ := bind_some' h
          refine mm_one 6 (.indexAddr 22 (.tmp 21) (.tmp 22)) (some 23) (by kernel_rfl) (by kernel_rfl) (oH_pure (.ip (cs_Debt x_32643)) (ev_idx_sl (e := 38) (k := 4) (c := cs_Debt) (ik := .i64) h_32644 (by kernel_rfl) (by kernel_rfl) (by kernel_rfl) (by kernel_rfl)) rfl) ?_
          refine mm_run 7 8 rfl (by kernel_rfl) ?_
          refine mm_one 8 (.binOp .neq 38 (.tmp 20) (.tmp 24) 38) (some 25) (by kernel_rfl) (by kernel_rfl) (oH_cmp (x := .agg (cs_Debt x_32639)) (y := .agg (cs_Debt x_32643)) (decide (x_32639 ≠ x_32643)) (by kernel_rfl) (by kernel_rfl) (by kernel_rfl) (neq_Debt x_32639 x_32643) rfl) ?_
          refine mix_fin' hK_32636 ⟨[(0, sl 4 cs_Debt a1), (1, sl 4 cs_Debt a2), (5, I s_32598), (25, B (decide (x_32639 ≠ x_32643)))], [], 0⟩ (by kernel_rfl) (leB rfl) ?_
          refine w_ite h (by kernel_rfl) (fun h_32645 h => ?_) (fun h_32645 h => ?_)
          · refine w_reg ⟨[(4, B false)], [], 0⟩ (by kernel_rfl) (leB rfl) ?_
            refine w_ret ?_
            obtain rfl := ((h_32504 _ (h_32599 _ (Option.some.inj h).symm).symm).symm).symm
            exact ret_leaf (.inl rfl) ⟨[(4, B false)], [], 0⟩ (to_ren [] (leB rfl) (by kernel_rfl) (by kernel_rfl) (renE_of (by kernel_rfl) (by kernel_rfl)) trivial) [B false] (by kernel_rfl) (by kernel_rfl) (leB rfl) (by kernel_rfl) trivial
          · refine w_skip ?_
            refine hK_32625 _ ⟨[(0, sl 4 cs_Debt a1), (1, sl 4 cs_Debt a2), (5, I s_32598)], [], 0⟩ (to_trim (by kernel_rfl) (leB rfl)) ?_
            refine w_reg0 ?_
            refine dd_run 0 3 rfl (by kernel_rfl) ?_
            refine dd_nil 3 rfl ?_
            exact hK_32600 _ _ (Option.some.inj h).symm (to_ren [] (leB rfl) (by kernel_rfl) (by kernel_rfl) (renE_of (by kernel_rfl) (by kernel_rfl)) trivial)
        · refine w_exit ?_
          exact hK_32505 _ _ (h_32599 _ (Option.some.inj h).symm).symm (to_ren [] (leB rfl) (by kernel_rfl) (by kernel_rfl) (renE_of (by kernel_rfl) (by kernel_rfl)) trivial)
    · refine w_reg ⟨[(4, B true)], [], 0⟩ (by kernel_rfl) (leB rfl) ?_
      refine w_ret ?_
      obtain rfl := ((Option.some.inj h).symm).symm
      exact ret_leaf (.inl rfl) ⟨[(4, B true)], [], 0⟩ (to_ren [] (leB rfl) (by kernel_rfl) (by kernel_rfl) (renE_of (by kernel_rfl) (by kernel_rfl)) trivial) [B true] (by kernel_rfl) (by kernel_rfl) (leB rfl) (by kernel_rfl) trivial
/-- estoppel/estoppelref42.Ratios -/
def g_estoppelref42_Ratios (a1 : List D.Ratio) (a2 : List D.Ratio) : Option (Bool) :=
  if ((a1.length : Int) != (a2.length : Int)) = true then
  some false
  else
  bindF (ρ := Unit) (
  loopO (σ := Int) (fun s_33168 =>
  if (decide (s_33168 < (a1.length : Int))) = true then
  (getI a1 s_33168).bind fun x_33209 =>
  (getI a2 s_33168).bind fun x_33213 =>
  if (decide (x_33209 ≠ x_33213)) = true then
  some (.inr (.inr false))
  else
  some (.inl (IntKind.i64.wrap (s_33168 + 1)))
  else
  some (.inr (.inl ()))) 0) (fun (e_33073 : Unit) =>
  some true)
set_option maxHeartbeats 4000000 in
theorem g_estoppelref42_Ratios_ok {a1 : List D.Ratio} {a2 : List D.Ratio} {res : Bool} (h : g_estoppelref42_Ratios a1 a2 = some res) : SpecK Try.prog [] 18 [sl 2 cs_Ratio a1, sl 2 cs_Ratio a2] [] 0 (B res) [] 0 := by
  refine ⟨spec_of_wp Try.func18 (by kernel_rfl) rfl Try.ntmps18 (by rw [Try.results18]) (leB rfl) ?_, by kernel_rfl, trivial, by kernel_rfl, trivial, by kernel_rfl⟩
  unfold g_estoppelref42_Ratios at h
  refine w_reg ⟨[(0, sl 2 cs_Ratio a1), (1, sl 2 cs_Ratio a2)], [], 0⟩ (by kernel_rfl) (leB rfl) ?_
  refine w_assoc ?_
  refine w_seq (fun K hK_32931 => w_reg0 ?_)
  refine dd_run 0 1 rfl (by kernel_rfl) ?_
  refine dd_one 1 (.call ⟨.builtin .len, #[(.tmp 6)], #[24]⟩) (some 7) (by kernel_rfl) (o_pure (I (a1.length : Int)) (ev_len_sl (e := 34) (ty := 0) (k := 2) (c := cs_Ratio) (by kernel_rfl) (by kernel_rfl)) rfl) ?_
  refine dd_run 2 3 rfl (by kernel_rfl) ?_
  refine dd_one 3 (.call ⟨.builtin .len, #[(.tmp 8)], #[24]⟩) (some 9) (by kernel_rfl) (o_pure (I (a2.length : Int)) (ev_len_sl (e := 34) (ty := 0) (k := 2) (c := cs_Ratio) (by kernel_rfl) (by kernel_rfl)) rfl) ?_
  refine ops_fin' hK_32931 ⟨[(0, sl 2 cs_Ratio a1), (1, sl 2 cs_Ratio a2), (10, B ((a1.length : Int) != (a2.length : Int)))], [], 0⟩ (by kernel_rfl) (leB rfl) ?_
  refine w_seq (fun K hK_32933 => ?_)
  refine w_ite h (by kernel_rfl) (fun h_32934 h => ?_) (fun h_32934 h => ?_)
  · refine w_reg ⟨[(4, B false)], [], 0⟩ (by kernel_rfl) (leB rfl) ?_
    refine w_ret ?_
    obtain rfl := ((Option.some.inj h).symm).symm
    exact ret_leaf (.inl rfl) ⟨[(4, B false)], [], 0⟩ (to_ren [] (leB rfl) (by kernel_rfl) (by kernel_rfl) (renE_of (by kernel_rfl) (by kernel_rfl)) trivial) [B false] (by kernel_rfl) (by kernel_rfl) (leB rfl) (by kernel_rfl) trivial
  · refine w_skip ?_
    refine hK_32933 _ ⟨[(0, sl 2 cs_Ratio a1), (1, sl 2 cs_Ratio a2)], [], 0⟩ (to_trim (by kernel_rfl) (leB rfl)) ?_
    refine w_assoc ?_
    refine w_reg ⟨[(0, sl 2 cs_Ratio a1), (1, sl 2 cs_Ratio a2), (5, I 0)], [], 0⟩ (by kernel_rfl) (leB rfl) ?_
    refine w_cut h (fun (e_33073 : Unit) => ⟨[], [], 0⟩) (fun o h h_33074 K hK_33075 => ?_) (fun e_33073 h => ?_)
    · refine w_block ?_
      refine w_loopO h (fun (s_33168 : Int) => ⟨[(0, sl 2 cs_Ratio a1), (1, sl 2 cs_Ratio a2), (5, I s_33168)], [], 0⟩) (to_ren [] (leB rfl) (by kernel_rfl) (by kernel_rfl) (renE_of (by kernel_rfl) (by kernel_rfl)) trivial) (fun s_33168 o h h_33169 K hK_33170 => ?_)
      · refine w_assoc ?_
        refine w_seq (fun K hK_33171 => w_reg0 ?_)
        refine dd_run 0 2 rfl (by kernel_rfl) ?_
        refine dd_one 2 (.call ⟨.builtin .len, #[(.tmp 12)], #[24]⟩) (some 13) (by kernel_rfl) (o_pure (I (a1.length : Int)) (ev_len_sl (e := 34) (ty := 0) (k := 2) (c := cs_Ratio) (by kernel_rfl) (by kernel_rfl)) rfl) ?_
        refine ops_fin' hK_33171 ⟨[(0, sl 2 cs_Ratio a1), (1, sl 2 cs_Ratio a2), (5, I s_33168), (14, B (decide (s_33168 < (a1.length : Int))))], [], 0⟩ (by kernel_rfl) (leB rfl) ?_
        refine w_seq (fun K hK_33173 => ?_)
        refine w_ite h (by kernel_rfl) (fun h_33174 h => ?_) (fun h_33174 h => ?_)
        · refine w_skip ?_
          refine hK_33173 _ ⟨[(0, sl 2 cs_Ratio a1), (1, sl 2 cs_Ratio a2), (5, I s_33168)], [], 0⟩ (to_trim (by kernel_rfl) (leB rfl)) ?_
          refine w_seq (fun K hK_33195 => ?_)
          refine w_block ?_
          refine w_seq (fun K hK_33206 => w_mix0 (by kernel_rfl) (by kernel_rfl) ?_)
          refine mm_run 0 2 rfl (by kernel_rfl) ?_
          obtain ⟨x_33209, h_33210, h⟩ := bind_some' h
          refine mm_one 2 (.indexAddr 24 (.tmp 17) (.tmp 18)) (some 19) (by kernel_rfl) (by kernel_rfl) (oH_pure (.ip (cs_Ratio x_33209)) (ev_idx_sl (e := 34) (k := 2) (c := cs_Ratio) (ik := .i64) h_33210 (by kernel_rfl) (by kernel_rfl) (by kernel_rfl) (by kernel_rfl)) rfl) ?_
          refine mm_run 3 6 rfl (by kernel_rfl) ?_
          obtain ⟨x_33213, h_33214, h⟩ := bind_some' h
          refine mm_one 6 (.indexAddr 24 (.tmp 21) (.tmp 22)) (some 23) (by kernel_rfl) (by kernel_rfl) (oH_pure (.ip (cs_Ratio x_33213)) (ev_idx_sl (e := 34) (k := 2) (c := cs_Ratio) (ik := .i64) h_33214 (by kernel_rfl) (by kernel_rfl) (by kernel_rfl) (by kernel_rfl)) rfl) ?_
          refine mm_run 7 8 rfl (by kernel_rfl) ?_
          refine mm_one 8 (.binOp .neq 34 (.tmp 20) (.tmp 24) 34) (some 25) (by kernel_rfl) (by kernel_rfl) (oH_cmp (x := .agg (cs_Ratio x_33209)) (y := .agg (cs_Ratio x_33213)) (decide (x_33209 ≠ x_33213)) (by kernel_rfl) (by kernel_rfl) (by kernel_rfl) (neq_Ratio x_33209 x_33213) rfl) ?_
          refine mix_fin' hK_33206 ⟨[(0, sl 2 cs_Ratio a1), (1, sl 2 cs_Ratio a2), (5, I s_33168), (25, B (decide (x_33209 ≠ x_33213)))], [], 0⟩ (by kernel_rfl) (leB rfl) ?_
          refine w_ite h (by kernel_rfl) (fun h_33215 h => ?_) (fun h_33215 h => ?_)
          · refine w_reg ⟨[(4, B false)], [], 0⟩ (by kernel_rfl) (leB rfl) ?_
            refine w_ret ?_
            obtain rfl := ((h_33074 _ (h_33169 _ (Option.some.inj h).symm).symm).symm).symm
            exact ret_leaf (.inl rfl) ⟨[(4, B false)], [], 0⟩ (to_ren [] (leB rfl) (by kernel_rfl) (by kernel_rfl) (renE_of (by kernel_rfl) (by kernel_rfl)) trivial) [B false] (by kernel_rfl) (by kernel_rfl) (leB rfl) (by kernel_rfl) trivial
          · refine w_skip ?_
            refine hK_33195 _ ⟨[(0, sl 2 cs_Ratio a1), (1, sl 2 cs_Ratio a2), (5, I s_33168)], [], 0⟩ (to_trim (by kernel_rfl) (leB rfl)) ?_
            refine w_reg0 ?_
            refine dd_run 0 3 rfl (by kernel_rfl) ?_
            refine dd_nil 3 rfl ?_
            exact hK_33170 _ _ (Option.some.inj h).symm (to_ren [] (leB rfl) (by kernel_rfl) (by kernel_rfl) (renE_of (by kernel_rfl) (by kernel_rfl)) trivial)
        · refine w_exit ?_
          exact hK_33075 _ _ (h_33169 _ (Option.some.inj h).symm).symm (to_ren [] (leB rfl) (by kernel_rfl) (by kernel_rfl) (renE_of (by kernel_rfl) (by kernel_rfl)) trivial)
    · refine w_reg ⟨[(4, B true)], [], 0⟩ (by kernel_rfl) (leB rfl) ?_
      refine w_ret ?_
      obtain rfl := ((Option.some.inj h).symm).symm
      exact ret_leaf (.inl rfl) ⟨[(4, B true)], [], 0⟩ (to_ren [] (leB rfl) (by kernel_rfl) (by kernel_rfl) (renE_of (by kernel_rfl) (by kernel_rfl)) trivial) [B true] (by kernel_rfl) (by kernel_rfl) (leB rfl) (by kernel_rfl) trivial
/-- estoppel/estoppelref42.Total -/
def g_estoppelref42_Total (a1 : List D.Ratio) : Option (D.Ratio × Bool) :=
  (g_estoppelref42_Zero).bind fun x_33601 =>
  bindF (ρ := D.Ratio) (
  loopO (σ := D.Ratio × Int) (fun s_33916 =>
  if (decide (s_33916.2 < (a1.length : Int))) = true then
  (getI a1 s_33916.2).bind fun x_33961 =>
  bindF (ρ := D.Ratio) (
  if (decide (x_33961.Num < 0)) = true then
  (g_estoppelref42_Minus x_33961).bind fun x_33970 =>
  some (.inl x_33970)
  else
  some (.inl x_33961)) (fun (e_33966 : D.Ratio) =>
  (g_estoppelref01_Add s_33916.1 e_33966).bind fun x_33975 =>
  if (x_33975.2 != 0) = true then
  some (.inr (.inr ((D.Ratio.mk 0 0), false)))
  else
  some (.inl (x_33975.1, (IntKind.i64.wrap (s_33916.2 + 1)))))
  else
  some (.inr (.inl s_33916.1))) (x_33601, 0)) (fun (e_33789 : D.Ratio) =>
  some (e_33789, true))
set_option maxHeartbeats 4000000 in
theorem g_estoppelref42_Total_ok {a1 : List D.Ratio} {res : D.Ratio × Bool} (h : g_estoppelref42_Total a1 = some res) : SpecK Try.prog [] 21 [sl 2 cs_Ratio a1] [] 0 (.tup [.agg (cs_Ratio res.1), B res.2]) [] 0 := by
  refine ⟨spec_of_wp Try.func21 (by kernel_rfl) rfl Try.ntmps21 (by rw [Try.results21]) (leB rfl) ?_, by kernel_rfl, trivial, by kernel_rfl, trivial, by kernel_rfl⟩
  unfold g_estoppelref42_Total at h
  refine w_reg ⟨[(0, sl 2 cs_Ratio a1), (2, .ptr 0 0)], [(0, ⟨34, 0, [I 0, I 0]⟩)], 1⟩ (by kernel_rfl) (leB rfl) ?_
  refine w_seq (fun K hK_33600 => w_reg0 ?_)
  obtain ⟨x_33601, h_33602, h⟩ := bind_some' h
  refine dd_one 0 (.call ⟨.value (.func 48), #[], #[]⟩) (some 9) (by kernel_rfl) (o_callP (g_estoppelref42_Zero_ok h_33602) (by kernel_rfl) rfl) ?_
  refine ops_fin' hK_33600 ⟨[(0, sl 2 cs_Ratio a1), (2, .ptr 0 0), (4, .ptr 1 0)], [(1, ⟨34, 0, (cs_Ratio x_33601)⟩), (0, ⟨34, 0, [I 0, I 0]⟩)], 2⟩ (by kernel_rfl) (leB rfl) ?_
  refine w_assoc ?_
  refine w_reg ⟨[(0, sl 2 cs_Ratio a1), (2, .ptr 0 0), (4, .ptr 1 0), (5, I 0)], [(1, ⟨34, 0, (cs_Ratio x_33601)⟩), (0, ⟨34, 0, [I 0, I 0]⟩)], 2⟩ (by kernel_rfl) (leB rfl) ?_
  refine w_cut h (fun (e_33789 : D.Ratio) => ⟨[(2, .ptr 0 0), (4, .ptr 1 0)], [(0, ⟨34, 0, [I 0, I 0]⟩), (1, ⟨34, 0, (cs_Ratio e_33789)⟩)], 2⟩) (fun o h h_33790 K hK_33791 => ?_) (fun e_33789 h => ?_)
  · refine w_block ?_
    refine w_loopO h (fun (s_33916 : D.Ratio × Int) => ⟨[(0, sl 2 cs_Ratio a1), (2, .ptr 0 0), (4, .ptr 1 0), (5, I s_33916.2)], [(0, ⟨34, 0, [I 0, I 0]⟩), (1, ⟨34, 0, (cs_Ratio s_33916.1)⟩)], 2⟩) (to_ren [] (leB rfl) (by kernel_rfl) (by kernel_rfl) (renE_of (by kernel_rfl) (by kernel_rfl)) ⟨reRn (by kernel_rfl) (leB rfl) (by kernel_rfl), ⟨reRn (by kernel_rfl) (leB rfl) (by kernel_rfl), trivial⟩⟩) (fun s_33916 o h h_33917 K hK_33918 => ?_)
    · refine w_assoc ?_
      refine w_seq (fun K hK_33919 => w_reg0 ?_)
      refine dd_run 0 2 rfl (by kernel_rfl) ?_
      refine dd_one 2 (.call ⟨.builtin .len, #[(.tmp 11)], #[24]⟩) (some 12) (by kernel_rfl) (o_pure (I (a1.length : Int)) (ev_len_sl (e := 34) (ty := 0) (k := 2) (c := cs_Ratio) (by kernel_rfl) (by kernel_rfl)) rfl) ?_
      refine ops_fin' hK_33919 ⟨[(0, sl 2 cs_Ratio a1), (2, .ptr 0 0), (4, .ptr 1 0), (5, I s_33916.2), (13, B (decide (s_33916.2 < (a1.length : Int))))], [(0, ⟨34, 0, [I 0, I 0]⟩), (1, ⟨34, 0, (cs_Ratio s_33916.1)⟩)], 2⟩ (by kernel_rfl) (leB rfl) ?_
      refine w_seq (fun K hK_33921 => ?_)
      refine w_ite h (by kernel_rfl) (fun h_33922 h => ?_) (fun h_33922 h => ?_)
      · refine w_skip ?_
        refine hK_33921 _ ⟨[(0, sl 2 cs_Ratio a1), (2, .ptr 0 0), (4, .ptr 1 0), (5, I s_33916.2)], [(0, ⟨34, 0, [I 0, I 0]⟩), (1, ⟨34, 0, (cs_Ratio s_33916.1)⟩)], 2⟩ (to_trim (by kernel_rfl) (leB rfl)) ?_
        refine w_seq (fun K hK_33951 => ?_)
        refine w_block ?_
        refine w_seq (fun K hK_33958 => w_reg0 ?_)
        refine dd_run 0 2 rfl (by kernel_rfl) ?_
        obtain ⟨x_33961, h_33962, h⟩ := bind_some' h
        refine dd_one 2 (.indexAddr 24 (.tmp 16) (.tmp 17)) (some 18) (by kernel_rfl) (o_pure (.ip (cs_Ratio x_33961)) (ev_idx_sl (e := 34) (k := 2) (c := cs_Ratio) (ik := .i64) h_33962 (by kernel_rfl) (by kernel_rfl) (by kernel_rfl) (by kernel_rfl)) rfl) ?_
        refine ops_fin' hK_33958 ⟨[(0, sl 2 cs_Ratio a1), (2, .ptr 0 0), (4, .ptr 1 0), (5, I s_33916.2), (6, .ptr 2 0)], [(2, ⟨34, 0, (cs_Ratio x_33961)⟩), (0, ⟨34, 0, [I 0, I 0]⟩), (1, ⟨34, 0, (cs_Ratio s_33916.1)⟩)], 3⟩ (by kernel_rfl) (leB rfl) ?_
        refine w_assoc ?_
        refine w_reg ⟨[(0, sl 2 cs_Ratio a1), (2, .ptr 0 0), (4, .ptr 1 0), (5, I s_33916.2), (6, .ptr 2 0), (22, B (decide (x_33961.Num < 0)))], [(2, ⟨34, 0, (cs_Ratio x_33961)⟩), (0, ⟨34, 0, [I 0, I 0]⟩), (1, ⟨34, 0, (cs_Ratio s_33916.1)⟩)], 3⟩ (by kernel_rfl) (leB rfl) ?_
        refine w_cut h (fun (e_33966 : D.Ratio) => ⟨[(0, sl 2 cs_Ratio a1), (2, .ptr 0 0), (4, .ptr 1 0), (5, I s_33916.2), (6, .ptr 2 0)], [(0, ⟨34, 0, [I 0, I 0]⟩), (1, ⟨34, 0, (cs_Ratio s_33916.1)⟩), (2, ⟨34, 0, (cs_Ratio e_33966)⟩)], 3⟩) (fun o h h_33967 K hK_33968 => ?_) (fun e_33966 h => ?_)
        · refine w_ite h (by kernel_rfl) (fun h_33969 h => ?_) (fun h_33969 h => ?_)
          · refine w_reg0 ?_
            refine dd_run 0 1 rfl (by kernel_rfl) ?_
            obtain ⟨x_33970, h_33971, h⟩ := bind_some' h
            refine dd_one 1 (.call ⟨.value (.func 32), #[(.tmp 23)], #[34]⟩) (some 24) (by kernel_rfl) (o_callP (g_estoppelref42_Minus_ok h_33971) (by kernel_rfl) rfl) ?_
            refine dd_run 2 3 rfl (by kernel_rfl) ?_
            refine dd_nil 3 rfl ?_
            exact hK_33968 _ _ (Option.some.inj h).symm (to_ren [] (leB rfl) (by kernel_rfl) (by kernel_rfl) (renE_of (by kernel_rfl) (by kernel_rfl)) ⟨reRn (by kernel_rfl) (leB rfl) (by kernel_rfl), ⟨reRn (by kernel_rfl) (leB rfl) (by kernel_rfl), ⟨reRn (by kernel_rfl) (leB rfl) (by kernel_rfl), trivial⟩⟩⟩)
          · refine w_skip ?_
            exact hK_33968 _ _ (Option.some.inj h).symm (to_ren [] (leB rfl) (by kernel_rfl) (by kernel_rfl) (renE_of (by kernel_rfl) (by kernel_rfl)) ⟨reRn (by kernel_rfl) (leB rfl) (by kernel_rfl), ⟨reRn (by kernel_rfl) (leB rfl) (by kernel_rfl), ⟨reRn (by kernel_rfl) (leB rfl) (by kernel_rfl), trivial⟩⟩⟩)
        · refine w_seq (fun K hK_33974 => w_reg0 ?_)
          refine dd_run 0 2 rfl (by kernel_rfl) ?_
          obtain ⟨x_33975, h_33976, h⟩ := bind_some' h
          refine dd_one 2 (.call ⟨.value (.func 39), #[(.tmp 26), (.tmp 27)], #[34, 34]⟩) (some 28) (by kernel_rfl) (o_callP (g_estoppelref01_Add_ok h_33976) (by kernel_rfl) rfl) ?_
          refine ops_fin' hK_33974 ⟨[(0, sl 2 cs_Ratio a1), (2, .ptr 0 0), (4, .ptr 1 0), (5, I s_33916.2), (7, .ptr 3 0), (8, I x_33975.2)], [(3, ⟨34, 0, (cs_Ratio x_33975.1)⟩), (0, ⟨34, 0, [I 0, I 0]⟩), (1, ⟨34, 0, (cs_Ratio s_33916.1)⟩), (2, ⟨34, 0, (cs_Ratio e_33966)⟩)], 4⟩ (by kernel_rfl) (leB rfl) ?_
          refine w_assoc ?_
          refine w_reg ⟨[(0, sl 2 cs_Ratio a1), (2, .ptr 0 0), (4, .ptr 1 0), (5, I s_33916.2), (7, .ptr 3 0), (32, B (x_33975.2 != 0))], [(3, ⟨34, 0, (cs_Ratio x_33975.1)⟩), (0, ⟨34, 0, [I 0, I 0]⟩), (1, ⟨34, 0, (cs_Ratio s_33916.1)⟩), (2, ⟨34, 0, (cs_Ratio e_33966)⟩)], 4⟩ (by kernel_rfl) (leB rfl) ?_
          refine w_seq (fun K hK_33978 => ?_)
          refine w_ite h (by kernel_rfl) (fun h_33979 h => ?_) (fun h_33979 h => ?_)
          · refine w_reg ⟨[(2, .ptr 0 0), (3, B false)], [(3, ⟨34, 0, (cs_Ratio x_33975.1)⟩), (0, ⟨34, 0, [I 0, I 0]⟩), (1, ⟨34, 0, (cs_Ratio s_33916.1)⟩), (2, ⟨34, 0, (cs_Ratio e_33966)⟩)], 4⟩ (by kernel_rfl) (leB rfl) ?_
            refine w_ret ?_
            obtain rfl := ((h_33790 _ (h_33917 _ (Option.some.inj h).symm).symm).symm).symm
            exact ret_leaf (.inl rfl) ⟨[(2, .ptr 0 0), (3, B false)], [(0, ⟨34, 0, (cs_Ratio (D.Ratio.mk 0 0))⟩)], 1⟩ (to_ren [] (leB rfl) (by kernel_rfl) (by kernel_rfl) (renE_of (by kernel_rfl) (by kernel_rfl)) ⟨reRn (by kernel_rfl) (leB rfl) (by kernel_rfl), trivial⟩) [.agg (cs_Ratio (D.Ratio.mk 0 0)), B false] (by kernel_rfl) (by kernel_rfl) (leB rfl) (by kernel_rfl) trivial
          · refine w_skip ?_
            refine hK_33978 _ ⟨[(0, sl 2 cs_Ratio a1), (2, .ptr 0 0), (4, .ptr 1 0), (5, I s_33916.2), (7, .ptr 3 0)], [(3, ⟨34, 0, (cs_Ratio x_33975.1)⟩), (0, ⟨34, 0, [I 0, I 0]⟩), (1, ⟨34, 0, (cs_Ratio s_33916.1)⟩), (2, ⟨34, 0, (cs_Ratio e_33966)⟩)], 4⟩ (to_trim (by kernel_rfl) (leB rfl)) ?_
            refine w_reg0 ?_
            refine dd_run 0 2 rfl (by kernel_rfl) ?_
            refine dd_nil 2 rfl ?_
            refine hK_33951 _ ⟨[(0, sl 2 cs_Ratio a1), (2, .ptr 0 0), (4, .ptr 1 0), (5, I s_33916.2)], [(3, ⟨34, 0, (cs_Ratio x_33975.1)⟩), (0, ⟨34, 0, [I 0, I 0]⟩), (1, ⟨34, 0, (cs_Ratio x_33975.1)⟩), (2, ⟨34, 0, (cs_Ratio e_33966)⟩)], 4⟩ (to_trim (by kernel_rfl) (leB rfl)) ?_
            refine w_reg0 ?_
            refine dd_run 0 3 rfl (by kernel_rfl) ?_
            refine dd_nil 3 rfl ?_
            exact hK_33918 _ _ (Option.some.inj h).symm (to_ren [] (leB rfl) (by kernel_rfl) (by kernel_rfl) (renE_of (by kernel_rfl) (by kernel_rfl)) ⟨reRn (by kernel_rfl) (leB rfl) (by kernel_rfl), ⟨reRn (by kernel_rfl) (leB rfl) (by kernel_rfl), trivial⟩⟩)
      · refine w_exit ?_
        exact hK_33791 _ _ (h_33917 _ (Option.some.inj h).symm).symm (to_ren [] (leB rfl) (by kernel_rfl) (by kernel_rfl) (renE_of (by kernel_rfl) (by kernel_rfl)) ⟨reRn (by kernel_rfl) (leB rfl) (by kernel_rfl), ⟨reRn (by kernel_rfl) (leB rfl) (by kernel_rfl), trivial⟩⟩)
  · refine w_reg ⟨[(2, .ptr 0 0), (3, B true)], [(0, ⟨34, 0, (cs_Ratio e_33789)⟩), (1, ⟨34, 0, (cs_Ratio e_33789)⟩)], 2⟩ (by kernel_rfl) (leB rfl) ?_
    refine w_ret ?_
    obtain rfl := ((Option.some.inj h).symm).symm
    exact ret_leaf (.inl rfl) ⟨[(2, .ptr 0 0), (3, B true)], [(0, ⟨34, 0, (cs_Ratio e_33789)⟩)], 1⟩ (to_ren [] (leB rfl) (by kernel_rfl) (by kernel_rfl) (renE_of (by kernel_rfl) (by kernel_rfl)) ⟨reRn (by kernel_rfl) (leB rfl) (by kernel_rfl), trivial⟩) [.agg (cs_Ratio e_33789), B true] (by kernel_rfl) (by kernel_rfl) (leB rfl) (by kernel_rfl) trivial
/-- estoppel/estoppelref42.Amounts -/
def g_estoppelref42_Amounts (a1 : List D.Debt) : Option (List D.Ratio) :=
  bindF (ρ := List D.Ratio) (
  loopO (σ := List D.Ratio × Int) (fun s_34230 =>
  if (decide (s_34230.2 < (a1.length : Int))) = true then
  (getI a1 s_34230.2).bind fun x_34248 =>
  (appO 16 s_34230.1 [x_34248.Amount]).bind fun x_34252 =>
  some (.inl (x_34252, (IntKind.i64.wrap (s_34230.2 + 1))))
  else
  some (.inr (.inl s_34230.1))) ([], 0)) (fun (e_34183 : List D.Ratio) =>
  some e_34183)
set_option maxHeartbeats 4000000 in
theorem g_estoppelref42_Amounts_ok {a1 : List D.Debt} {res : List D.Ratio} (h : g_estoppelref42_Amounts a1 = some res) : SpecK Try.prog [] 22 [sl 4 cs_Debt a1] [] 0 (sl 2 cs_Ratio res) [] 0 := by
  refine ⟨spec_of_wp Try.func22 (by kernel_rfl) rfl Try.ntmps22 (by rw [Try.results22]) (leB rfl) ?_, by kernel_rfl, trivial, by kernel_rfl, trivial, by kernel_rfl⟩
  unfold g_estoppelref42_Amounts at h
  refine w_reg ⟨[(0, sl 4 cs_Debt a1)], [], 0⟩ (by kernel_rfl) (leB rfl) ?_
  refine w_reg ⟨[(0, sl 4 cs_Debt a1), (3, Nl)], [], 0⟩ (by kernel_rfl) (leB rfl) ?_
  refine w_assoc ?_
  refine w_reg ⟨[(0, sl 4 cs_Debt a1), (3, Nl), (4, I 0)], [], 0⟩ (by kernel_rfl) (leB rfl) ?_
  refine w_cut h (fun (e_34183 : List D.Ratio) => ⟨[(3, sl 2 cs_Ratio e_34183)], [], 0⟩) (fun o h h_34184 K hK_34185 => ?_) (fun e_34183 h => ?_)
  · refine w_block ?_
    refine w_loopO h (fun (s_34230 : List D.Ratio × Int) => ⟨[(0, sl 4 cs_Debt a1), (3, growE 0 s_34230.1), (4, I s_34230.2)], (growH 0 ⟨34, 2, flat cs_Ratio s_34230.1⟩ s_34230.1 []), 1⟩) (to_ren [] (leB rfl) (by kernel_rfl) (by kernel_rfl) (renE_of (by kernel_rfl) (by kernel_rfl)) trivial) (fun s_34230 o h h_34231 K hK_34232 => ?_)
    · refine w_assoc ?_
      refine w_seq (fun K hK_34233 => w_reg0 ?_)
      refine dd_run 0 2 rfl (by kernel_rfl) ?_
      refine dd_one 2 (.call ⟨.builtin .len, #[(.tmp 6)], #[22]⟩) (some 7) (by kernel_rfl) (o_pure (I (a1.length : Int)) (ev_len_sl (e := 38) (ty := 0) (k := 4) (c := cs_Debt) (by kernel_rfl) (by kernel_rfl)) rfl) ?_
      refine ops_fin' hK_34233 ⟨[(0, sl 4 cs_Debt a1), (3, growE 0 s_34230.1), (4, I s_34230.2), (8, B (decide (s_34230.2 < (a1.length : Int))))], (growH 0 ⟨34, 2, flat cs_Ratio s_34230.1⟩ s_34230.1 []), 1⟩ (by kernel_rfl) (leB rfl) ?_
      refine w_seq (fun K hK_34235 => ?_)
      refine w_ite h (by kernel_rfl) (fun h_34236 h => ?_) (fun h_34236 h => ?_)
      · refine w_skip ?_
        refine hK_34235 _ ⟨[(0, sl 4 cs_Debt a1), (3, growE 0 s_34230.1), (4, I s_34230.2)], (growH 0 ⟨34, 2, flat cs_Ratio s_34230.1⟩ s_34230.1 []), 1⟩ (to_trim (by kernel_rfl) (leB rfl)) ?_
        refine w_seq (fun K hK_34245 => ?_)
        refine w_block ?_
        refine w_reg0 ?_
        refine dd_run 0 3 rfl (by kernel_rfl) ?_
        obtain ⟨x_34248, h_34249, h⟩ := bind_some' h
        refine dd_one 3 (.indexAddr 22 (.tmp 12) (.tmp 13)) (some 14) (by kernel_rfl) (o_pure (.ip (cs_Debt x_34248)) (ev_idx_sl (e := 38) (k := 4) (c := cs_Debt) (ik := .i64) h_34249 (by kernel_rfl) (by kernel_rfl) (by kernel_rfl) (by kernel_rfl)) rfl) ?_
        refine dd_run 4 7 rfl (by kernel_rfl) ?_
        obtain ⟨x_34252, h_34253, h⟩ := bind_some' h
        refine dd_one 7 (.call ⟨.builtin .append, #[(.tmp 11), (.tmp 17)], #[24, 24]⟩) (some 18) (by kernel_rfl) (o_heap (.own 1 x_34252.length) [(1, ⟨34, 2, flat cs_Ratio x_34252⟩)] 2 (by kernel_rfl) (hv_append (sv := growE 0 s_34230.1) (xv := sl 2 cs_Ratio [x_34248.Amount]) (by kernel_rfl) (by kernel_rfl) (app_new (e := 34) (k := 2) (c := cs_Ratio) h_34253 (.inl (appO_pos h_34253)) (by kernel_rfl) (by kernel_rfl) (by kernel_rfl) (by kernel_rfl : zeroT _ _ = some [I 0, I 0]) (leB rfl) rfl (old_grow (k := 2) (c := cs_Ratio) (A := []) (T := []) (fun _ => rfl) _ (by kernel_rfl) (by kernel_rfl) (by kernel_rfl) (by kernel_rfl)) (new_sl (k := 2) (c := cs_Ratio) (fun _ => rfl) _))) rfl) ?_
        refine dd_run 8 9 rfl (by kernel_rfl) ?_
        refine dd_nil 9 rfl ?_
        refine hK_34245 _ ⟨[(0, sl 4 cs_Debt a1), (3, .own 1 x_34252.length), (4, I s_34230.2)], [(1, ⟨34, 2, flat cs_Ratio x_34252⟩)], 2⟩ (to_trim (by kernel_rfl) (leB rfl)) ?_
        refine w_reg0 ?_
        refine dd_run 0 3 rfl (by kernel_rfl) ?_
        refine dd_nil 3 rfl ?_
        obtain ⟨y_, ys_, hy_⟩ := ne_cons (appO_pos h_34253); subst hy_
        exact hK_34232 _ _ (Option.some.inj h).symm (to_ren [(0, 1)] (leB rfl) (by kernel_rfl) (by kernel_rfl) (renE_of (by kernel_rfl) (by kernel_rfl)) ⟨rePl (by kernel_rfl) (leB rfl) (flat_all _ (fun _ => rfl) _), trivial⟩)
      · refine w_exit ?_
        exact hK_34185 _ _ (h_34231 _ (Option.some.inj h).symm).symm (to_trans (to_freezeG 3 0 s_34230.1 34 [] [] (k := 2) (c := cs_Ratio) (leB rfl) (by kernel_rfl) (by kernel_rfl) (by kernel_rfl) (free_nil _) (by kernel_rfl) (leB rfl) (fun _ => rfl) (fun _ => rfl) (fun _ => rfl)) (to_ren [] (leB rfl) (by kernel_rfl) (by kernel_rfl) (renE_of (by kernel_rfl) (by kernel_rfl)) trivial))
  · refine w_reg ⟨[(2, sl 2 cs_Ratio e_34183)], [], 0⟩ (by kernel_rfl) (leB rfl) ?_
    refine w_ret ?_
    obtain rfl := ((Option.some.inj h).symm).symm
    exact ret_leaf (.inl rfl) ⟨[(2, sl 2 cs_Ratio e_34183)], [], 0⟩ (to_ren [] (leB rfl) (by kernel_rfl) (by kernel_rfl) (renE_of (by kernel_rfl) (by kernel_rfl)) trivial) [sl 2 cs_Ratio e_34183] (by kernel_rfl) (by kernel_rfl) (leB rfl) (by kernel_rfl) trivial
/-- estoppel/estoppellaw42.debt -/
def g_estoppellaw42_debt (a1 : Int) (a2 : Int) (a3 : Int) (a4 : Int) : Option (D.Debt) :=
  some (D.Debt.mk a1 a2 (D.Ratio.mk a3 a4))
set_option maxHeartbeats 4000000 in
theorem g_estoppellaw42_debt_ok {a1 : Int} {a2 : Int} {a3 : Int} {a4 : Int} {res : D.Debt} (h : g_estoppellaw42_debt a1 a2 a3 a4 = some res) : SpecK Try.prog [] 25 [I a1, I a2, I a3, I a4] [] 0 (.agg (cs_Debt res)) [] 0 := by
  refine ⟨spec_of_wp Try.func25 (by kernel_rfl) rfl Try.ntmps25 (by rw [Try.results25]) (leB rfl) ?_, by kernel_rfl, trivial, by kernel_rfl, trivial, by kernel_rfl⟩
  unfold g_estoppellaw42_debt at h
  refine w_reg ⟨[(0, I a1), (1, I a2), (2, I a3), (3, I a4), (8, .ptr 0 0)], [(0, ⟨38, 0, [I 0, I 0, I 0, I 0]⟩)], 1⟩ (by kernel_rfl) (leB rfl) ?_
  refine w_reg ⟨[(8, .ptr 0 0)], [(0, ⟨38, 0, [I a1, I a2, I a3, I a4]⟩)], 1⟩ (by kernel_rfl) (leB rfl) ?_
  refine w_ret ?_
  obtain rfl := ((Option.some.inj h).symm).symm
  exact ret_leaf (.inl rfl) ⟨[(8, .ptr 0 0)], [(0, ⟨38, 0, (cs_Debt (D.Debt.mk a1 a2 (D.Ratio.mk a3 a4)))⟩)], 1⟩ (to_ren [] (leB rfl) (by kernel_rfl) (by kernel_rfl) (renE_of (by kernel_rfl) (by kernel_rfl)) ⟨reRn (by kernel_rfl) (leB rfl) (by kernel_rfl), trivial⟩) [.agg (cs_Debt (D.Debt.mk a1 a2 (D.Ratio.mk a3 a4)))] (by kernel_rfl) (by kernel_rfl) (leB rfl) (by kernel_rfl) trivial
end Go.Proofs.Ytgggekjhfdkgkaa.Ab
