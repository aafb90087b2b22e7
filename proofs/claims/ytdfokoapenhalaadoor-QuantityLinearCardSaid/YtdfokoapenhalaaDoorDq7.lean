/- Functions of the program as plain functions (printed by wip/dec.py). -/
import Derived.Test.YtdfokoapenhalaaDoorDqT
namespace Go.Proofs.YtdfokoapenhalaaDoor.Ab
open Go Go.RowKit Go.Shelf
/-- estoppel/estoppelref04.Same -/
def g_estoppelref04_Same (a1 : List D.Ratio) (a2 : List D.Ratio) : Option (Bool) :=
  if ((a1.length : Int) != (a2.length : Int)) = true then
  some false
  else
  bindF (ρ := Unit) (
  loopO (σ := Int) (fun s_17813 =>
  if (decide (s_17813 < (a1.length : Int))) = true then
  (getI a1 s_17813).bind fun x_17858 =>
  (getI a2 s_17813).bind fun x_17862 =>
  if (decide (x_17858 ≠ x_17862)) = true then
  some (.inr (.inr false))
  else
  some (.inl (IntKind.i64.wrap (s_17813 + 1)))
  else
  some (.inr (.inl ()))) 0) (fun (e_17710 : Unit) =>
  some true)
set_option maxHeartbeats 4000000 in
theorem g_estoppelref04_Same_ok {a1 : List D.Ratio} {a2 : List D.Ratio} {res : Bool} (h : g_estoppelref04_Same a1 a2 = some res) : SpecK Tryd.prog [] 23 [sl 2 cs_Ratio a1, sl 2 cs_Ratio a2] [] 0 (B res) [] 0 := by
  refine ⟨spec_of_wp Tryd.func23 (by kernel_rfl) rfl Tryd.ntmps23 (by rw [Tryd.results23]) (leB rfl) ?_, by kernel_rfl, trivial, by kernel_rfl, trivial, by kernel_rfl⟩
  unfold g_estoppelref04_Same at h
  refine w_reg ⟨[(0, sl 2 cs_Ratio a1), (1, sl 2 cs_Ratio a2)], [], 0⟩ (by kernel_rfl) (leB rfl) ?_
  refine w_assoc ?_
  refine w_seq (fun K hK_17556 => w_reg0 ?_)
  refine dd_run 0 1 rfl (by kernel_rfl) ?_
  refine dd_one 1 (.call ⟨.builtin .len, #[(.tmp 6)], #[24]⟩) (some 7) (by kernel_rfl) (o_pure (I (a1.length : Int)) (ev_len_sl (e := 31) (ty := 0) (k := 2) (c := cs_Ratio) (by kernel_rfl) (by kernel_rfl)) rfl) ?_
  refine dd_run 2 3 rfl (by kernel_rfl) ?_
  refine dd_one 3 (.call ⟨.builtin .len, #[(.tmp 8)], #[24]⟩) (some 9) (by kernel_rfl) (o_pure (I (a2.length : Int)) (ev_len_sl (e := 31) (ty := 0) (k := 2) (c := cs_Ratio) (by kernel_rfl) (by kernel_rfl)) rfl) ?_
  refine ops_fin' hK_17556 ⟨[(0, sl 2 cs_Ratio a1), (1, sl 2 cs_Ratio a2), (10, B ((a1.length : Int) != (a2.length : Int)))], [], 0⟩ (by kernel_rfl) (leB rfl) ?_
  refine w_seq (fun K hK_17558 => ?_)
  refine w_ite h (by kernel_rfl) (fun h_17559 h => ?_) (fun h_17559 h => ?_)
  · refine w_reg ⟨[(4, B false)], [], 0⟩ (by kernel_rfl) (leB rfl) ?_
    refine w_ret ?_
    obtain rfl := ((Option.some.inj h).symm).symm
    exact ret_leaf (.inl rfl) ⟨[(4, B false)], [], 0⟩ (to_ren [] (leB rfl) (by kernel_rfl) (by kernel_rfl) (renE_of (by kernel_rfl) (by kernel_rfl)) trivial) [B false] (by kernel_rfl) (by kernel_rfl) (leB rfl) (by kernel_rfl) trivial
  · refine w_skip ?_
    refine hK_17558 _ ⟨[(0, sl 2 cs_Ratio a1), (1, sl 2 cs_Ratio a2)], [], 0⟩ (to_trim (by kernel_rfl) (leB rfl)) ?_
    refine w_assoc ?_
    refine w_reg ⟨[(0, sl 2 cs_Ratio a1), (1, sl 2 cs_Ratio a2), (5, I 0)], [], 0⟩ (by kernel_rfl) (leB rfl) ?_
    refine w_cut h (fun (e_17710 : Unit) => ⟨[], [], 0⟩) (fun o h h_17711 K hK_17712 => ?_) (fun e_17710 h => ?_)
    · refine w_block ?_
      refine w_loopO h (fun (s_17813 : Int) => ⟨[(0, sl 2 cs_Ratio a1), (1, sl 2 cs_Ratio a2), (5, I s_17813)], [], 0⟩) (to_ren [] (leB rfl) (by kernel_rfl) (by kernel_rfl) (renE_of (by kernel_rfl) (by kernel_rfl)) trivial) (fun s_17813 o h h_17814 K hK_17815 => ?_)
      · refine w_assoc ?_
        refine w_seq (fun K hK_17816 => w_reg0 ?_)
        refine dd_run 0 2 rfl (by kernel_rfl) ?_
        refine dd_one 2 (.call ⟨.builtin .len, #[(.tmp 12)], #[24]⟩) (some 13) (by kernel_rfl) (o_pure (I (a1.length : Int)) (ev_len_sl (e := 31) (ty := 0) (k := 2) (c := cs_Ratio) (by kernel_rfl) (by kernel_rfl)) rfl) ?_
        refine ops_fin' hK_17816 ⟨[(0, sl 2 cs_Ratio a1), (1, sl 2 cs_Ratio a2), (5, I s_17813), (14, B (decide (s_17813 < (a1.length : Int))))], [], 0⟩ (by kernel_rfl) (leB rfl) ?_
        refine w_seq (fun K hK_17818 => ?_)
        refine w_ite h (by kernel_rfl) (fun h_17819 h => ?_) (fun h_17819 h => ?_)
        · refine w_skip ?_
          refine hK_17818 _ ⟨[(0, sl 2 cs_Ratio a1), (1, sl 2 cs_Ratio a2), (5, I s_17813)], [], 0⟩ (to_trim (by kernel_rfl) (leB rfl)) ?_
          refine w_seq (fun K hK_17842 => ?_)
          refine w_block ?_
          refine w_seq (fun K hK_17855 => w_mix0 (by kernel_rfl) (by kernel_rfl) ?_)
          refine mm_run 0 2 rfl (by kernel_rfl) ?_
          obtain ⟨x_17858, h_17859, h⟩ := bind_some' h
          refine mm_one 2 (.indexAddr 24 (.tmp 17) (.tmp 18)) (some 19) (by kernel_rfl) (by kernel_rfl) (oH_pure (.ip (cs_Ratio x_17858)) (ev_idx_sl (e := 31) (k := 2) (c := cs_Ratio) (ik := .i64) h_17859 (by kernel_rfl) (by kernel_rfl) (by kernel_rfl) (by kernel_rfl)) rfl) ?_
          refine mm_run 3 6 rfl (by kernel_rfl) ?_
          obtain ⟨x_17862, h_17863, h⟩ := bind_some' h
          refine mm_one 6 (.indexAddr 24 (.tmp 21) (.tmp 22)) (some 23) (by kernel_rfl) (by kernel_rfl) (oH_pure (.ip (cs_Ratio x_17862)) (ev_idx_sl (e := 31) (k := 2) (c := cs_Ratio) (ik := .i64) h_17863 (by kernel_rfl) (by kernel_rfl) (by kernel_rfl) (by kernel_rfl)) rfl) ?_
          refine mm_run 7 8 rfl (by kernel_rfl) ?_
          refine mm_one 8 (.binOp .neq 31 (.tmp 20) (.tmp 24) 31) (some 25) (by kernel_rfl) (by kernel_rfl) (oH_cmp (x := .agg (cs_Ratio x_17858)) (y := .agg (cs_Ratio x_17862)) (decide (x_17858 ≠ x_17862)) (by kernel_rfl) (by kernel_rfl) (by kernel_rfl) (neq_Ratio x_17858 x_17862) rfl) ?_
          refine mix_fin' hK_17855 ⟨[(0, sl 2 cs_Ratio a1), (1, sl 2 cs_Ratio a2), (5, I s_17813), (25, B (decide (x_17858 ≠ x_17862)))], [], 0⟩ (by kernel_rfl) (leB rfl) ?_
          refine w_ite h (by kernel_rfl) (fun h_17864 h => ?_) (fun h_17864 h => ?_)
          · refine w_reg ⟨[(4, B false)], [], 0⟩ (by kernel_rfl) (leB rfl) ?_
            refine w_ret ?_
            obtain rfl := ((h_17711 _ (h_17814 _ (Option.some.inj h).symm).symm).symm).symm
            exact ret_leaf (.inl rfl) ⟨[(4, B false)], [], 0⟩ (to_ren [] (leB rfl) (by kernel_rfl) (by kernel_rfl) (renE_of (by kernel_rfl) (by kernel_rfl)) trivial) [B false] (by kernel_rfl) (by kernel_rfl) (leB rfl) (by kernel_rfl) trivial
          · refine w_skip ?_
            refine hK_17842 _ ⟨[(0, sl 2 cs_Ratio a1), (1, sl 2 cs_Ratio a2), (5, I s_17813)], [], 0⟩ (to_trim (by kernel_rfl) (leB rfl)) ?_
            refine w_reg0 ?_
            refine dd_run 0 3 rfl (by kernel_rfl) ?_
            refine dd_nil 3 rfl ?_
            exact hK_17815 _ _ (Option.some.inj h).symm (to_ren [] (leB rfl) (by kernel_rfl) (by kernel_rfl) (renE_of (by kernel_rfl) (by kernel_rfl)) trivial)
        · refine w_exit ?_
          exact hK_17712 _ _ (h_17814 _ (Option.some.inj h).symm).symm (to_ren [] (leB rfl) (by kernel_rfl) (by kernel_rfl) (renE_of (by kernel_rfl) (by kernel_rfl)) trivial)
    · refine w_reg ⟨[(4, B true)], [], 0⟩ (by kernel_rfl) (leB rfl) ?_
      refine w_ret ?_
      obtain rfl := ((Option.some.inj h).symm).symm
      exact ret_leaf (.inl rfl) ⟨[(4, B true)], [], 0⟩ (to_ren [] (leB rfl) (by kernel_rfl) (by kernel_rfl) (renE_of (by kernel_rfl) (by kernel_rfl)) trivial) [B true] (by kernel_rfl) (by kernel_rfl) (leB rfl) (by kernel_rfl) trivial
/-- estoppel/estoppelref01.size -/
def g_estoppelref01_size (a1 : Int) : Option (Int) :=
  if (decide (a1 < 0)) = true then
  some (IntKind.u64.wrap (0 - (IntKind.u64.wrap a1)))
  else
  some (IntKind.u64.wrap a1)
set_option maxHeartbeats 4000000 in
theorem g_estoppelref01_size_ok {a1 : Int} {res : Int} (h : g_estoppelref01_size a1 = some res) : SpecK Tryd.prog [] 51 [I a1] [] 0 (.s (.int .u64 res)) [] 0 := by
  refine ⟨spec_of_wp Tryd.func51 (by kernel_rfl) rfl Tryd.ntmps51 (by rw [Tryd.results51]) (leB rfl) ?_, by kernel_rfl, trivial, by kernel_rfl, trivial, by kernel_rfl⟩
  unfold g_estoppelref01_size at h
  refine w_reg ⟨[(0, I a1)], [], 0⟩ (by kernel_rfl) (leB rfl) ?_
  refine w_assoc ?_
  refine w_reg ⟨[(0, I a1), (4, B (decide (a1 < 0)))], [], 0⟩ (by kernel_rfl) (leB rfl) ?_
  refine w_seq (fun K hK_17890 => ?_)
  refine w_ite h (by kernel_rfl) (fun h_17891 h => ?_) (fun h_17891 h => ?_)
  · refine w_reg ⟨[(2, .s (.int .u64 (IntKind.u64.wrap (0 - (IntKind.u64.wrap a1)))))], [], 0⟩ (by kernel_rfl) (leB rfl) ?_
    refine w_ret ?_
    obtain rfl := ((Option.some.inj h).symm).symm
    exact ret_leaf (.inl rfl) ⟨[(2, .s (.int .u64 (IntKind.u64.wrap (0 - (IntKind.u64.wrap a1)))))], [], 0⟩ (to_ren [] (leB rfl) (by kernel_rfl) (by kernel_rfl) (renE_of (by kernel_rfl) (by kernel_rfl)) trivial) [.s (.int .u64 (IntKind.u64.wrap (0 - (IntKind.u64.wrap a1))))] (by kernel_rfl) (by kernel_rfl) (leB rfl) (by kernel_rfl) trivial
  · refine w_skip ?_
    refine hK_17890 _ ⟨[(0, I a1)], [], 0⟩ (to_trim (by kernel_rfl) (leB rfl)) ?_
    refine w_reg ⟨[(2, .s (.int .u64 (IntKind.u64.wrap a1)))], [], 0⟩ (by kernel_rfl) (leB rfl) ?_
    refine w_ret ?_
    obtain rfl := ((Option.some.inj h).symm).symm
    exact ret_leaf (.inl rfl) ⟨[(2, .s (.int .u64 (IntKind.u64.wrap a1)))], [], 0⟩ (to_ren [] (leB rfl) (by kernel_rfl) (by kernel_rfl) (renE_of (by kernel_rfl) (by kernel_rfl)) trivial) [.s (.int .u64 (IntKind.u64.wrap a1))] (by kernel_rfl) (by kernel_rfl) (leB rfl) (by kernel_rfl) trivial
/-- estoppel/estoppelref01.Gcd -/
def g_estoppelref01_Gcd (a1 : Int) (a2 : Int) : Option (Int) :=
  bindF (ρ := Int) (
  loopO (σ := Int × Int) (fun s_17992 =>
  if (decide (s_17992.2 > 0)) = true then
  (remO s_17992.1 s_17992.2).bind fun x_18000 =>
  some (.inl (s_17992.2, x_18000))
  else
  some (.inr (.inl s_17992.1))) (a1, a2)) (fun (e_17973 : Int) =>
  some e_17973)
set_option maxHeartbeats 4000000 in
theorem g_estoppelref01_Gcd_ok {a1 : Int} {a2 : Int} {res : Int} (h : g_estoppelref01_Gcd a1 a2 = some res) : SpecK Tryd.prog [] 50 [.s (.int .u64 a1), .s (.int .u64 a2)] [] 0 (.s (.int .u64 res)) [] 0 := by
  refine ⟨spec_of_wp Tryd.func50 (by kernel_rfl) rfl Tryd.ntmps50 (by rw [Tryd.results50]) (leB rfl) ?_, by kernel_rfl, trivial, by kernel_rfl, trivial, by kernel_rfl⟩
  unfold g_estoppelref01_Gcd at h
  refine w_reg ⟨[(0, .s (.int .u64 a1)), (1, .s (.int .u64 a2))], [], 0⟩ (by kernel_rfl) (leB rfl) ?_
  refine w_cut h (fun (e_17973 : Int) => ⟨[(0, .s (.int .u64 e_17973))], [], 0⟩) (fun o h h_17974 K hK_17975 => ?_) (fun e_17973 h => ?_)
  · refine w_block ?_
    refine w_loopO h (fun (s_17992 : Int × Int) => ⟨[(0, .s (.int .u64 s_17992.1)), (1, .s (.int .u64 s_17992.2))], [], 0⟩) (to_ren [] (leB rfl) (by kernel_rfl) (by kernel_rfl) (renE_of (by kernel_rfl) (by kernel_rfl)) trivial) (fun s_17992 o h h_17993 K hK_17994 => ?_)
    · refine w_assoc ?_
      refine w_reg ⟨[(0, .s (.int .u64 s_17992.1)), (1, .s (.int .u64 s_17992.2)), (6, B (decide (s_17992.2 > 0)))], [], 0⟩ (by kernel_rfl) (leB rfl) ?_
      refine w_seq (fun K hK_17996 => ?_)
      refine w_ite h (by kernel_rfl) (fun h_17997 h => ?_) (fun h_17997 h => ?_)
      · refine w_skip ?_
        refine hK_17996 _ ⟨[(0, .s (.int .u64 s_17992.1)), (1, .s (.int .u64 s_17992.2))], [], 0⟩ (to_trim (by kernel_rfl) (leB rfl)) ?_
        refine w_block ?_
        refine w_mix0 (by kernel_rfl) (by kernel_rfl) ?_
        refine mm_run 0 3 rfl (by kernel_rfl) ?_
        obtain ⟨x_18000, h_18001, h⟩ := bind_some' h
        refine mm_one 3 (.binOp .rem 69 (.tmp 8) (.tmp 9) 69) (some 10) (by kernel_rfl) (by kernel_rfl) (oH_pure (.s (.int .u64 x_18000)) (ev_rem h_18001 (by kernel_rfl) (by kernel_rfl)) rfl) ?_
        refine mm_run 4 6 rfl (by kernel_rfl) ?_
        refine mm_nil 6 rfl ?_
        exact hK_17994 _ _ (Option.some.inj h).symm (to_ren [] (leB rfl) (by kernel_rfl) (by kernel_rfl) (renE_of (by kernel_rfl) (by kernel_rfl)) trivial)
      · refine w_exit ?_
        exact hK_17975 _ _ (h_17993 _ (Option.some.inj h).symm).symm (to_ren [] (leB rfl) (by kernel_rfl) (by kernel_rfl) (renE_of (by kernel_rfl) (by kernel_rfl)) trivial)
  · refine w_reg ⟨[(4, .s (.int .u64 e_17973))], [], 0⟩ (by kernel_rfl) (leB rfl) ?_
    refine w_ret ?_
    obtain rfl := ((Option.some.inj h).symm).symm
    exact ret_leaf (.inl rfl) ⟨[(4, .s (.int .u64 e_17973))], [], 0⟩ (to_ren [] (leB rfl) (by kernel_rfl) (by kernel_rfl) (renE_of (by kernel_rfl) (by kernel_rfl)) trivial) [.s (.int .u64 e_17973)] (by kernel_rfl) (by kernel_rfl) (leB rfl) (by kernel_rfl) trivial
/-- estoppel/estoppelref01.Valid -/
def g_estoppelref01_Valid (a1 : D.Ratio) : Option (Bool) :=
  if (decide (a1.Den ≥ 1)) = true then
  if (decide (a1.Den ≤ 1000000)) = true then
  if (decide (a1.Num ≥ (-1000000000000))) = true then
  if (decide (a1.Num ≤ 1000000000000)) = true then
  (g_estoppelref01_size a1.Num).bind fun x_18030 =>
  (g_estoppelref01_size a1.Den).bind fun x_18032 =>
  (g_estoppelref01_Gcd x_18030 x_18032).bind fun x_18034 =>
  some (x_18034 == 1)
  else
  some false
  else
  some false
  else
  some false
  else
  some false
set_option maxHeartbeats 4000000 in
theorem g_estoppelref01_Valid_ok {a1 : D.Ratio} {res : Bool} (h : g_estoppelref01_Valid a1 = some res) : SpecK Tryd.prog [] 31 [.agg (cs_Ratio a1)] [] 0 (B res) [] 0 := by
  refine ⟨spec_of_wp Tryd.func31 (by kernel_rfl) rfl Tryd.ntmps31 (by rw [Tryd.results31]) (leB rfl) ?_, by kernel_rfl, trivial, by kernel_rfl, trivial, by kernel_rfl⟩
  unfold g_estoppelref01_Valid at h
  refine w_reg ⟨[(1, .ip (cs_Ratio a1))], [], 0⟩ (by kernel_rfl) (leB rfl) ?_
  refine w_seq (fun K hK_18025 => w_mix0 (by kernel_rfl) (by kernel_rfl) ?_)
  refine mm_run 0 4 rfl (by kernel_rfl) ?_
  refine ite_both h (fun h_18026 h => ?_) (fun h_18026 h => ?_)
  · refine mm_oneG 4 (.fieldAddr 31 (.tmp 1) 1) (some 7) 3 true (b := (decide (a1.Den ≥ 1))) (by kernel_rfl) (by kernel_rfl) (by kernel_rfl) h_18026 (oH_pure (.ip (((cs_Ratio a1)).drop 1)) (by kernel_rfl) rfl) ?_
    refine mm_oneG 5 (.load 3 (.tmp 7)) (some 8) 3 true (b := (decide (a1.Den ≥ 1))) (by kernel_rfl) (by kernel_rfl) (by kernel_rfl) h_18026 (oH_pure (I a1.Den) (by kernel_rfl) rfl) ?_
    refine mm_oneG 6 (.binOp .leq 3 (.tmp 8) (.const (.int .i64 (1000000))) 3) (some 9) 3 true (b := (decide (a1.Den ≥ 1))) (by kernel_rfl) (by kernel_rfl) (by kernel_rfl) h_18026 (oH_pure (B (decide (a1.Den ≤ 1000000))) (by kernel_rfl) rfl) ?_
    refine mm_one 7 (.pick (.tmp 6) (.tmp 9) (.const (.bool false))) (some 10) (by kernel_rfl) (by kernel_rfl) (oH_pure (B (decide (a1.Den ≤ 1000000))) (ev_pickT h_18026 (by kernel_rfl) (by kernel_rfl)) rfl) ?_
    refine mm_run 8 9 rfl (by kernel_rfl) ?_
    refine ite_both h (fun h_18027 h => ?_) (fun h_18027 h => ?_)
    · refine mm_oneG 9 (.fieldAddr 31 (.tmp 1) 0) (some 12) 8 true (b := (decide (a1.Den ≤ 1000000))) (by kernel_rfl) (by kernel_rfl) (by kernel_rfl) h_18027 (oH_pure (.ip (cs_Ratio a1)) (by kernel_rfl) rfl) ?_
      refine mm_oneG 10 (.load 3 (.tmp 12)) (some 13) 8 true (b := (decide (a1.Den ≤ 1000000))) (by kernel_rfl) (by kernel_rfl) (by kernel_rfl) h_18027 (oH_pure (I a1.Num) (by kernel_rfl) rfl) ?_
      refine mm_oneG 11 (.binOp .geq 3 (.tmp 13) (.const (.int .i64 (-1000000000000))) 3) (some 14) 8 true (b := (decide (a1.Den ≤ 1000000))) (by kernel_rfl) (by kernel_rfl) (by kernel_rfl) h_18027 (oH_pure (B (decide (a1.Num ≥ (-1000000000000)))) (by kernel_rfl) rfl) ?_
      refine mm_one 12 (.pick (.tmp 11) (.tmp 14) (.const (.bool false))) (some 15) (by kernel_rfl) (by kernel_rfl) (oH_pure (B (decide (a1.Num ≥ (-1000000000000)))) (ev_pickT h_18027 (by kernel_rfl) (by kernel_rfl)) rfl) ?_
      refine mm_run 13 14 rfl (by kernel_rfl) ?_
      refine ite_both h (fun h_18028 h => ?_) (fun h_18028 h => ?_)
      · refine mm_oneG 14 (.fieldAddr 31 (.tmp 1) 0) (some 17) 13 true (b := (decide (a1.Num ≥ (-1000000000000)))) (by kernel_rfl) (by kernel_rfl) (by kernel_rfl) h_18028 (oH_pure (.ip (cs_Ratio a1)) (by kernel_rfl) rfl) ?_
        refine mm_oneG 15 (.load 3 (.tmp 17)) (some 18) 13 true (b := (decide (a1.Num ≥ (-1000000000000)))) (by kernel_rfl) (by kernel_rfl) (by kernel_rfl) h_18028 (oH_pure (I a1.Num) (by kernel_rfl) rfl) ?_
        refine mm_oneG 16 (.binOp .leq 3 (.tmp 18) (.const (.int .i64 (1000000000000))) 3) (some 19) 13 true (b := (decide (a1.Num ≥ (-1000000000000)))) (by kernel_rfl) (by kernel_rfl) (by kernel_rfl) h_18028 (oH_pure (B (decide (a1.Num ≤ 1000000000000))) (by kernel_rfl) rfl) ?_
        refine mm_one 17 (.pick (.tmp 16) (.tmp 19) (.const (.bool false))) (some 20) (by kernel_rfl) (by kernel_rfl) (oH_pure (B (decide (a1.Num ≤ 1000000000000))) (ev_pickT h_18028 (by kernel_rfl) (by kernel_rfl)) rfl) ?_
        refine mm_run 18 19 rfl (by kernel_rfl) ?_
        refine ite_both h (fun h_18029 h => ?_) (fun h_18029 h => ?_)
        · refine mm_oneG 19 (.fieldAddr 31 (.tmp 1) 0) (some 22) 18 true (b := (decide (a1.Num ≤ 1000000000000))) (by kernel_rfl) (by kernel_rfl) (by kernel_rfl) h_18029 (oH_pure (.ip (cs_Ratio a1)) (by kernel_rfl) rfl) ?_
          refine mm_oneG 20 (.load 3 (.tmp 22)) (some 23) 18 true (b := (decide (a1.Num ≤ 1000000000000))) (by kernel_rfl) (by kernel_rfl) (by kernel_rfl) h_18029 (oH_pure (I a1.Num) (by kernel_rfl) rfl) ?_
          obtain ⟨x_18030, h_18031, h⟩ := bind_some' h
          refine mm_oneG 21 (.call ⟨.value (.func 51), #[(.tmp 23)], #[3]⟩) (some 24) 18 true (b := (decide (a1.Num ≤ 1000000000000))) (by kernel_rfl) (by kernel_rfl) (by kernel_rfl) h_18029 (oH_callP (g_estoppelref01_size_ok h_18031) (by kernel_rfl) rfl) ?_
          refine mm_oneG 22 (.fieldAddr 31 (.tmp 1) 1) (some 25) 18 true (b := (decide (a1.Num ≤ 1000000000000))) (by kernel_rfl) (by kernel_rfl) (by kernel_rfl) h_18029 (oH_pure (.ip (((cs_Ratio a1)).drop 1)) (by kernel_rfl) rfl) ?_
          refine mm_oneG 23 (.load 3 (.tmp 25)) (some 26) 18 true (b := (decide (a1.Num ≤ 1000000000000))) (by kernel_rfl) (by kernel_rfl) (by kernel_rfl) h_18029 (oH_pure (I a1.Den) (by kernel_rfl) rfl) ?_
          obtain ⟨x_18032, h_18033, h⟩ := bind_some' h
          refine mm_oneG 24 (.call ⟨.value (.func 51), #[(.tmp 26)], #[3]⟩) (some 27) 18 true (b := (decide (a1.Num ≤ 1000000000000))) (by kernel_rfl) (by kernel_rfl) (by kernel_rfl) h_18029 (oH_callP (g_estoppelref01_size_ok h_18033) (by kernel_rfl) rfl) ?_
          obtain ⟨x_18034, h_18035, h⟩ := bind_some' h
          refine mm_oneG 25 (.call ⟨.value (.func 50), #[(.tmp 24), (.tmp 27)], #[69, 69]⟩) (some 28) 18 true (b := (decide (a1.Num ≤ 1000000000000))) (by kernel_rfl) (by kernel_rfl) (by kernel_rfl) h_18029 (oH_callP (g_estoppelref01_Gcd_ok h_18035) (by kernel_rfl) rfl) ?_
          refine mm_oneG 26 (.binOp .eql 69 (.tmp 28) (.const (.int .u64 (1))) 69) (some 29) 18 true (b := (decide (a1.Num ≤ 1000000000000))) (by kernel_rfl) (by kernel_rfl) (by kernel_rfl) h_18029 (oH_pure (B (x_18034 == 1)) (by kernel_rfl) rfl) ?_
          refine mm_one 27 (.pick (.tmp 21) (.tmp 29) (.const (.bool false))) (some 30) (by kernel_rfl) (by kernel_rfl) (oH_pure (B (x_18034 == 1)) (ev_pickT h_18029 (by kernel_rfl) (by kernel_rfl)) rfl) ?_
          refine mix_fin' hK_18025 ⟨[(2, B (x_18034 == 1))], [], 0⟩ (by kernel_rfl) (leB rfl) ?_
          refine w_ret ?_
          obtain rfl := ((Option.some.inj h).symm).symm
          exact ret_leaf (.inl rfl) ⟨[(2, B (x_18034 == 1))], [], 0⟩ (to_ren [] (leB rfl) (by kernel_rfl) (by kernel_rfl) (renE_of (by kernel_rfl) (by kernel_rfl)) trivial) [B (x_18034 == 1)] (by kernel_rfl) (by kernel_rfl) (leB rfl) (by kernel_rfl) trivial
        · refine mm_skip 19 (.fieldAddr 31 (.tmp 1) 0) (some 22) 18 true (b := (decide (a1.Num ≤ 1000000000000))) (by kernel_rfl) (by kernel_rfl) (by kernel_rfl) h_18029 rfl ?_
          refine mm_skip 20 (.load 3 (.tmp 22)) (some 23) 18 true (b := (decide (a1.Num ≤ 1000000000000))) (by kernel_rfl) (by kernel_rfl) (by kernel_rfl) h_18029 rfl ?_
          refine mm_skip 21 (.call ⟨.value (.func 51), #[(.tmp 23)], #[3]⟩) (some 24) 18 true (b := (decide (a1.Num ≤ 1000000000000))) (by kernel_rfl) (by kernel_rfl) (by kernel_rfl) h_18029 rfl ?_
          refine mm_skip 22 (.fieldAddr 31 (.tmp 1) 1) (some 25) 18 true (b := (decide (a1.Num ≤ 1000000000000))) (by kernel_rfl) (by kernel_rfl) (by kernel_rfl) h_18029 rfl ?_
          refine mm_skip 23 (.load 3 (.tmp 25)) (some 26) 18 true (b := (decide (a1.Num ≤ 1000000000000))) (by kernel_rfl) (by kernel_rfl) (by kernel_rfl) h_18029 rfl ?_
          refine mm_skip 24 (.call ⟨.value (.func 51), #[(.tmp 26)], #[3]⟩) (some 27) 18 true (b := (decide (a1.Num ≤ 1000000000000))) (by kernel_rfl) (by kernel_rfl) (by kernel_rfl) h_18029 rfl ?_
          refine mm_skip 25 (.call ⟨.value (.func 50), #[(.tmp 24), (.tmp 27)], #[69, 69]⟩) (some 28) 18 true (b := (decide (a1.Num ≤ 1000000000000))) (by kernel_rfl) (by kernel_rfl) (by kernel_rfl) h_18029 rfl ?_
          refine mm_skip 26 (.binOp .eql 69 (.tmp 28) (.const (.int .u64 (1))) 69) (some 29) 18 true (b := (decide (a1.Num ≤ 1000000000000))) (by kernel_rfl) (by kernel_rfl) (by kernel_rfl) h_18029 rfl ?_
          refine mm_one 27 (.pick (.tmp 21) (.tmp 29) (.const (.bool false))) (some 30) (by kernel_rfl) (by kernel_rfl) (oH_pure (B false) (ev_pickF h_18029 (by kernel_rfl) (by kernel_rfl)) rfl) ?_
          refine mix_fin' hK_18025 ⟨[(2, B false)], [], 0⟩ (by kernel_rfl) (leB rfl) ?_
          refine w_ret ?_
          obtain rfl := ((Option.some.inj h).symm).symm
          exact ret_leaf (.inl rfl) ⟨[(2, B false)], [], 0⟩ (to_ren [] (leB rfl) (by kernel_rfl) (by kernel_rfl) (renE_of (by kernel_rfl) (by kernel_rfl)) trivial) [B false] (by kernel_rfl) (by kernel_rfl) (leB rfl) (by kernel_rfl) trivial
      · refine mm_skip 14 (.fieldAddr 31 (.tmp 1) 0) (some 17) 13 true (b := (decide (a1.Num ≥ (-1000000000000)))) (by kernel_rfl) (by kernel_rfl) (by kernel_rfl) h_18028 rfl ?_
        refine mm_skip 15 (.load 3 (.tmp 17)) (some 18) 13 true (b := (decide (a1.Num ≥ (-1000000000000)))) (by kernel_rfl) (by kernel_rfl) (by kernel_rfl) h_18028 rfl ?_
        refine mm_skip 16 (.binOp .leq 3 (.tmp 18) (.const (.int .i64 (1000000000000))) 3) (some 19) 13 true (b := (decide (a1.Num ≥ (-1000000000000)))) (by kernel_rfl) (by kernel_rfl) (by kernel_rfl) h_18028 rfl ?_
        refine mm_one 17 (.pick (.tmp 16) (.tmp 19) (.const (.bool false))) (some 20) (by kernel_rfl) (by kernel_rfl) (oH_pure (B false) (ev_pickF h_18028 (by kernel_rfl) (by kernel_rfl)) rfl) ?_
        refine mm_run 18 19 rfl (by kernel_rfl) ?_
        refine mm_skip 19 (.fieldAddr 31 (.tmp 1) 0) (some 22) 18 true (b := false) (by kernel_rfl) (by kernel_rfl) (by kernel_rfl) rfl rfl ?_
        refine mm_skip 20 (.load 3 (.tmp 22)) (some 23) 18 true (b := false) (by kernel_rfl) (by kernel_rfl) (by kernel_rfl) rfl rfl ?_
        refine mm_skip 21 (.call ⟨.value (.func 51), #[(.tmp 23)], #[3]⟩) (some 24) 18 true (b := false) (by kernel_rfl) (by kernel_rfl) (by kernel_rfl) rfl rfl ?_
        refine mm_skip 22 (.fieldAddr 31 (.tmp 1) 1) (some 25) 18 true (b := false) (by kernel_rfl) (by kernel_rfl) (by kernel_rfl) rfl rfl ?_
        refine mm_skip 23 (.load 3 (.tmp 25)) (some 26) 18 true (b := false) (by kernel_rfl) (by kernel_rfl) (by kernel_rfl) rfl rfl ?_
        refine mm_skip 24 (.call ⟨.value (.func 51), #[(.tmp 26)], #[3]⟩) (some 27) 18 true (b := false) (by kernel_rfl) (by kernel_rfl) (by kernel_rfl) rfl rfl ?_
        refine mm_skip 25 (.call ⟨.value (.func 50), #[(.tmp 24), (.tmp 27)], #[69, 69]⟩) (some 28) 18 true (b := false) (by kernel_rfl) (by kernel_rfl) (by kernel_rfl) rfl rfl ?_
        refine mm_skip 26 (.binOp .eql 69 (.tmp 28) (.const (.int .u64 (1))) 69) (some 29) 18 true (b := false) (by kernel_rfl) (by kernel_rfl) (by kernel_rfl) rfl rfl ?_
        refine mix_fin' hK_18025 ⟨[(2, B false)], [], 0⟩ (by kernel_rfl) (leB rfl) ?_
        refine w_ret ?_
        obtain rfl := ((Option.some.inj h).symm).symm
        exact ret_leaf (.inl rfl) ⟨[(2, B false)], [], 0⟩ (to_ren [] (leB rfl) (by kernel_rfl) (by kernel_rfl) (renE_of (by kernel_rfl) (by kernel_rfl)) trivial) [B false] (by kernel_rfl) (by kernel_rfl) (leB rfl) (by kernel_rfl) trivial
    · refine mm_skip 9 (.fieldAddr 31 (.tmp 1) 0) (some 12) 8 true (b := (decide (a1.Den ≤ 1000000))) (by kernel_rfl) (by kernel_rfl) (by kernel_rfl) h_18027 rfl ?_
      refine mm_skip 10 (.load 3 (.tmp 12)) (some 13) 8 true (b := (decide (a1.Den ≤ 1000000))) (by kernel_rfl) (by kernel_rfl) (by kernel_rfl) h_18027 rfl ?_
      refine mm_skip 11 (.binOp .geq 3 (.tmp 13) (.const (.int .i64 (-1000000000000))) 3) (some 14) 8 true (b := (decide (a1.Den ≤ 1000000))) (by kernel_rfl) (by kernel_rfl) (by kernel_rfl) h_18027 rfl ?_
      refine mm_one 12 (.pick (.tmp 11) (.tmp 14) (.const (.bool false))) (some 15) (by kernel_rfl) (by kernel_rfl) (oH_pure (B false) (ev_pickF h_18027 (by kernel_rfl) (by kernel_rfl)) rfl) ?_
      refine mm_run 13 14 rfl (by kernel_rfl) ?_
      refine mm_skip 14 (.fieldAddr 31 (.tmp 1) 0) (some 17) 13 true (b := false) (by kernel_rfl) (by kernel_rfl) (by kernel_rfl) rfl rfl ?_
      refine mm_skip 15 (.load 3 (.tmp 17)) (some 18) 13 true (b := false) (by kernel_rfl) (by kernel_rfl) (by kernel_rfl) rfl rfl ?_
      refine mm_skip 16 (.binOp .leq 3 (.tmp 18) (.const (.int .i64 (1000000000000))) 3) (some 19) 13 true (b := false) (by kernel_rfl) (by kernel_rfl) (by kernel_rfl) rfl rfl ?_
      refine mm_run 17 19 rfl (by kernel_rfl) ?_
      refine mm_skip 19 (.fieldAddr 31 (.tmp 1) 0) (some 22) 18 true (b := false) (by kernel_rfl) (by kernel_rfl) (by kernel_rfl) rfl rfl ?_
      refine mm_skip 20 (.load 3 (.tmp 22)) (some 23) 18 true (b := false) (by kernel_rfl) (by kernel_rfl) (by kernel_rfl) rfl rfl ?_
      refine mm_skip 21 (.call ⟨.value (.func 51), #[(.tmp 23)], #[3]⟩) (some 24) 18 true (b := false) (by kernel_rfl) (by kernel_rfl) (by kernel_rfl) rfl rfl ?_
      refine mm_skip 22 (.fieldAddr 31 (.tmp 1) 1) (some 25) 18 true (b := false) (by kernel_rfl) (by kernel_rfl) (by kernel_rfl) rfl rfl ?_
      refine mm_skip 23 (.load 3 (.tmp 25)) (some 26) 18 true (b := false) (by kernel_rfl) (by kernel_rfl) (by kernel_rfl) rfl rfl ?_
      refine mm_skip 24 (.call ⟨.value (.func 51), #[(.tmp 26)], #[3]⟩) (some 27) 18 true (b := false) (by kernel_rfl) (by kernel_rfl) (by kernel_rfl) rfl rfl ?_
      refine mm_skip 25 (.call ⟨.value (.func 50), #[(.tmp 24), (.tmp 27)], #[69, 69]⟩) (some 28) 18 true (b := false) (by kernel_rfl) (by kernel_rfl) (by kernel_rfl) rfl rfl ?_
      refine mm_skip 26 (.binOp .eql 69 (.tmp 28) (.const (.int .u64 (1))) 69) (some 29) 18 true (b := false) (by kernel_rfl) (by kernel_rfl) (by kernel_rfl) rfl rfl ?_
      refine mix_fin' hK_18025 ⟨[(2, B false)], [], 0⟩ (by kernel_rfl) (leB rfl) ?_
      refine w_ret ?_
      obtain rfl := ((Option.some.inj h).symm).symm
      exact ret_leaf (.inl rfl) ⟨[(2, B false)], [], 0⟩ (to_ren [] (leB rfl) (by kernel_rfl) (by kernel_rfl) (renE_of (by kernel_rfl) (by kernel_rfl)) trivial) [B false] (by kernel_rfl) (by kernel_rfl) (leB rfl) (by kernel_rfl) trivial
  · refine mm_skip 4 (.fieldAddr 31 (.tmp 1) 1) (some 7) 3 true (b := (decide (a1.Den ≥ 1))) (by kernel_rfl) (by kernel_rfl) (by kernel_rfl) h_18026 rfl ?_
    refine mm_skip 5 (.load 3 (.tmp 7)) (some 8) 3 true (b := (decide (a1.Den ≥ 1))) (by kernel_rfl) (by kernel_rfl) (by kernel_rfl) h_18026 rfl ?_
    refine mm_skip 6 (.binOp .leq 3 (.tmp 8) (.const (.int .i64 (1000000))) 3) (some 9) 3 true (b := (decide (a1.Den ≥ 1))) (by kernel_rfl) (by kernel_rfl) (by kernel_rfl) h_18026 rfl ?_
    refine mm_one 7 (.pick (.tmp 6) (.tmp 9) (.const (.bool false))) (some 10) (by kernel_rfl) (by kernel_rfl) (oH_pure (B false) (ev_pickF h_18026 (by kernel_rfl) (by kernel_rfl)) rfl) ?_
    refine mm_run 8 9 rfl (by kernel_rfl) ?_
    refine mm_skip 9 (.fieldAddr 31 (.tmp 1) 0) (some 12) 8 true (b := false) (by kernel_rfl) (by kernel_rfl) (by kernel_rfl) rfl rfl ?_
    refine mm_skip 10 (.load 3 (.tmp 12)) (some 13) 8 true (b := false) (by kernel_rfl) (by kernel_rfl) (by kernel_rfl) rfl rfl ?_
    refine mm_skip 11 (.binOp .geq 3 (.tmp 13) (.const (.int .i64 (-1000000000000))) 3) (some 14) 8 true (b := false) (by kernel_rfl) (by kernel_rfl) (by kernel_rfl) rfl rfl ?_
    refine mm_run 12 14 rfl (by kernel_rfl) ?_
    refine mm_skip 14 (.fieldAddr 31 (.tmp 1) 0) (some 17) 13 true (b := false) (by kernel_rfl) (by kernel_rfl) (by kernel_rfl) rfl rfl ?_
    refine mm_skip 15 (.load 3 (.tmp 17)) (some 18) 13 true (b := false) (by kernel_rfl) (by kernel_rfl) (by kernel_rfl) rfl rfl ?_
    refine mm_skip 16 (.binOp .leq 3 (.tmp 18) (.const (.int .i64 (1000000000000))) 3) (some 19) 13 true (b := false) (by kernel_rfl) (by kernel_rfl) (by kernel_rfl) rfl rfl ?_
    refine mm_run 17 19 rfl (by kernel_rfl) ?_
    refine mm_skip 19 (.fieldAddr 31 (.tmp 1) 0) (some 22) 18 true (b := false) (by kernel_rfl) (by kernel_rfl) (by kernel_rfl) rfl rfl ?_
    refine mm_skip 20 (.load 3 (.tmp 22)) (some 23) 18 true (b := false) (by kernel_rfl) (by kernel_rfl) (by kernel_rfl) rfl rfl ?_
    refine mm_skip 21 (.call ⟨.value (.func 51), #[(.tmp 23)], #[3]⟩) (some 24) 18 true (b := false) (by kernel_rfl) (by kernel_rfl) (by kernel_rfl) rfl rfl ?_
    refine mm_skip 22 (.fieldAddr 31 (.tmp 1) 1) (some 25) 18 true (b := false) (by kernel_rfl) (by kernel_rfl) (by kernel_rfl) rfl rfl ?_
    refine mm_skip 23 (.load 3 (.tmp 25)) (some 26) 18 true (b := false) (by kernel_rfl) (by kernel_rfl) (by kernel_rfl) rfl rfl ?_
    refine mm_skip 24 (.call ⟨.value (.func 51), #[(.tmp 26)], #[3]⟩) (some 27) 18 true (b := false) (by kernel_rfl) (by kernel_rfl) (by kernel_rfl) rfl rfl ?_
    refine mm_skip 25 (.call ⟨.value (.func 50), #[(.tmp 24), (.tmp 27)], #[69, 69]⟩) (some 28) 18 true (b := false) (by kernel_rfl) (by kernel_rfl) (by kernel_rfl) rfl rfl ?_
    refine mm_skip 26 (.binOp .eql 69 (.tmp 28) (.const (.int .u64 (1))) 69) (some 29) 18 true (b := false) (by kernel_rfl) (by kernel_rfl) (by kernel_rfl) rfl rfl ?_
    refine mix_fin' hK_18025 ⟨[(2, B false)], [], 0⟩ (by kernel_rfl) (leB rfl) ?_
    refine w_ret ?_
    obtain rfl := ((Option.some.inj h).symm).symm
    exact ret_leaf (.inl rfl) ⟨[(2, B false)], [], 0⟩ (to_ren [] (leB rfl) (by kernel_rfl) (by kernel_rfl) (renE_of (by kernel_rfl) (by kernel_rfl)) trivial) [B false] (by kernel_rfl) (by kernel_rfl) (leB rfl) (by kernel_rfl) trivial
/-- estoppel/estoppelref01.Cmp -/
def g_estoppelref01_Cmp (a1 : D.Ratio) (a2 : D.Ratio) : Option (Int) :=
  bindF (ρ := Bool) (
  (g_estoppelref01_Valid a1).bind fun x_18098 =>
  if (!x_18098) = true then
  some (.inl true)
  else
  (g_estoppelref01_Valid a2).bind fun x_18101 =>
  some (.inl (!x_18101))) (fun (e_18095 : Bool) =>
  if e_18095 = true then
  some 0
  else
  if (decide ((IntKind.i64.wrap (a1.Num * a2.Den)) < (IntKind.i64.wrap (a2.Num * a1.Den)))) = true then
  some (-1)
  else
  if (decide ((IntKind.i64.wrap (a1.Num * a2.Den)) > (IntKind.i64.wrap (a2.Num * a1.Den)))) = true then
  some 1
  else
  some 0)
set_option maxHeartbeats 4000000 in
theorem g_estoppelref01_Cmp_ok {a1 : D.Ratio} {a2 : D.Ratio} {res : Int} (h : g_estoppelref01_Cmp a1 a2 = some res) : SpecK Tryd.prog [] 32 [.agg (cs_Ratio a1), .agg (cs_Ratio a2)] [] 0 (I res) [] 0 := by
  refine ⟨spec_of_wp Tryd.func32 (by kernel_rfl) rfl Tryd.ntmps32 (by rw [Tryd.results32]) (leB rfl) ?_, by kernel_rfl, trivial, by kernel_rfl, trivial, by kernel_rfl⟩
  unfold g_estoppelref01_Cmp at h
  refine w_reg ⟨[(2, .ip (cs_Ratio a1)), (3, .ip (cs_Ratio a2))], [], 0⟩ (by kernel_rfl) (leB rfl) ?_
  refine w_assoc ?_
  refine w_cut h (fun (e_18095 : Bool) => ⟨[(2, .ip (cs_Ratio a1)), (3, .ip (cs_Ratio a2)), (14, B e_18095)], [], 0⟩) (fun o h h_18096 K hK_18097 => ?_) (fun e_18095 h => ?_)
  · refine w_reg0 ?_
    refine dd_run 0 1 rfl (by kernel_rfl) ?_
    obtain ⟨x_18098, h_18099, h⟩ := bind_some' h
    refine dd_one 1 (.call ⟨.value (.func 31), #[(.tmp 7)], #[31]⟩) (some 8) (by kernel_rfl) (o_callP (g_estoppelref01_Valid_ok h_18099) (by kernel_rfl) rfl) ?_
    refine dd_run 2 4 rfl (by kernel_rfl) ?_
    refine ite_both h (fun h_18100 h => ?_) (fun h_18100 h => ?_)
    · refine dd_skip 4 7 3 false rfl (b := (!x_18098)) (by kernel_rfl) h_18100 (by kernel_rfl) ?_
      refine dd_one 7 (.pick (.tmp 10) (.const (.bool true)) (.tmp 13)) (some 14) (by kernel_rfl) (o_pure (B true) (ev_pickT h_18100 (by kernel_rfl) (by kernel_rfl)) rfl) ?_
      refine dd_nil 8 rfl ?_
      exact hK_18097 _ _ (Option.some.inj h).symm (to_ren [] (leB rfl) (by kernel_rfl) (by kernel_rfl) (renE_of (by kernel_rfl) (by kernel_rfl)) trivial)
    · refine dd_runG 4 5 3 false rfl (b := (!x_18098)) (by kernel_rfl) h_18100 (by kernel_rfl) ?_
      obtain ⟨x_18101, h_18102, h⟩ := bind_some' h
      refine dd_oneG 5 (.call ⟨.value (.func 31), #[(.tmp 11)], #[31]⟩) (some 12) 3 false (b := (!x_18098)) (by kernel_rfl) (by kernel_rfl) h_18100 (o_callP (g_estoppelref01_Valid_ok h_18102) (by kernel_rfl) rfl) ?_
      refine dd_runG 6 7 3 false rfl (b := (!x_18098)) (by kernel_rfl) h_18100 (by kernel_rfl) ?_
      refine dd_one 7 (.pick (.tmp 10) (.const (.bool true)) (.tmp 13)) (some 14) (by kernel_rfl) (o_pure (B (!x_18101)) (ev_pickF h_18100 (by kernel_rfl) (by kernel_rfl)) rfl) ?_
      refine dd_nil 8 rfl ?_
      exact hK_18097 _ _ (Option.some.inj h).symm (to_ren [] (leB rfl) (by kernel_rfl) (by kernel_rfl) (renE_of (by kernel_rfl) (by kernel_rfl)) trivial)
  · refine w_seq (fun K hK_18104 => ?_)
    refine w_ite h (by kernel_rfl) (fun h_18105 h => ?_) (fun h_18105 h => ?_)
    · refine w_reg ⟨[(4, I 0)], [], 0⟩ (by kernel_rfl) (leB rfl) ?_
      refine w_ret ?_
      obtain rfl := ((Option.some.inj h).symm).symm
      exact ret_leaf (.inl rfl) ⟨[(4, I 0)], [], 0⟩ (to_ren [] (leB rfl) (by kernel_rfl) (by kernel_rfl) (renE_of (by kernel_rfl) (by kernel_rfl)) trivial) [I 0] (by kernel_rfl) (by kernel_rfl) (leB rfl) (by kernel_rfl) trivial
    · refine w_skip ?_
      refine hK_18104 _ ⟨[(2, .ip (cs_Ratio a1)), (3, .ip (cs_Ratio a2))], [], 0⟩ (to_trim (by kernel_rfl) (leB rfl)) ?_
      refine w_reg ⟨[(2, .ip (cs_Ratio a1)), (3, .ip (cs_Ratio a2)), (5, I (IntKind.i64.wrap (a1.Num * a2.Den)))], [], 0⟩ (by kernel_rfl) (leB rfl) ?_
      refine w_reg ⟨[(5, I (IntKind.i64.wrap (a1.Num * a2.Den))), (6, I (IntKind.i64.wrap (a2.Num * a1.Den)))], [], 0⟩ (by kernel_rfl) (leB rfl) ?_
      refine w_assoc ?_
      refine w_reg ⟨[(5, I (IntKind.i64.wrap (a1.Num * a2.Den))), (6, I (IntKind.i64.wrap (a2.Num * a1.Den))), (27, B (decide ((IntKind.i64.wrap (a1.Num * a2.Den)) < (IntKind.i64.wrap (a2.Num * a1.Den)))))], [], 0⟩ (by kernel_rfl) (leB rfl) ?_
      refine w_seq (fun K hK_18107 => ?_)
      refine w_ite h (by kernel_rfl) (fun h_18108 h => ?_) (fun h_18108 h => ?_)
      · refine w_reg ⟨[(4, I (-1))], [], 0⟩ (by kernel_rfl) (leB rfl) ?_
        refine w_ret ?_
        obtain rfl := ((Option.some.inj h).symm).symm
        exact ret_leaf (.inl rfl) ⟨[(4, I (-1))], [], 0⟩ (to_ren [] (leB rfl) (by kernel_rfl) (by kernel_rfl) (renE_of (by kernel_rfl) (by kernel_rfl)) trivial) [I (-1)] (by kernel_rfl) (by kernel_rfl) (leB rfl) (by kernel_rfl) trivial
      · refine w_skip ?_
        refine hK_18107 _ ⟨[(5, I (IntKind.i64.wrap (a1.Num * a2.Den))), (6, I (IntKind.i64.wrap (a2.Num * a1.Den)))], [], 0⟩ (to_trim (by kernel_rfl) (leB rfl)) ?_
        refine w_assoc ?_
        refine w_reg ⟨[(30, B (decide ((IntKind.i64.wrap (a1.Num * a2.Den)) > (IntKind.i64.wrap (a2.Num * a1.Den)))))], [], 0⟩ (by kernel_rfl) (leB rfl) ?_
        refine w_seq (fun K hK_18110 => ?_)
        refine w_ite h (by kernel_rfl) (fun h_18111 h => ?_) (fun h_18111 h => ?_)
        · refine w_reg ⟨[(4, I 1)], [], 0⟩ (by kernel_rfl) (leB rfl) ?_
          refine w_ret ?_
          obtain rfl := ((Option.some.inj h).symm).symm
          exact ret_leaf (.inl rfl) ⟨[(4, I 1)], [], 0⟩ (to_ren [] (leB rfl) (by kernel_rfl) (by kernel_rfl) (renE_of (by kernel_rfl) (by kernel_rfl)) trivial) [I 1] (by kernel_rfl) (by kernel_rfl) (leB rfl) (by kernel_rfl) trivial
        · refine w_skip ?_
          refine hK_18110 _ ⟨[], [], 0⟩ (to_trim (by kernel_rfl) (leB rfl)) ?_
          refine w_reg ⟨[(4, I 0)], [], 0⟩ (by kernel_rfl) (leB rfl) ?_
          refine w_ret ?_
          obtain rfl := ((Option.some.inj h).symm).symm
          exact ret_leaf (.inl rfl) ⟨[(4, I 0)], [], 0⟩ (to_ren [] (leB rfl) (by kernel_rfl) (by kernel_rfl) (renE_of (by kernel_rfl) (by kernel_rfl)) trivial) [I 0] (by kernel_rfl) (by kernel_rfl) (leB rfl) (by kernel_rfl) trivial
end Go.Proofs.YtdfokoapenhalaaDoor.Ab
