/- Functions of the program as plain functions (printed by wip/dec.py). -/
import Derived.Test.YtdfokoapenhalaaDoorDq14
import Derived.Test.YtdfokoapenhalaaDoorDq15
namespace Go.Proofs.YtdfokoapenhalaaDoor.Ab
open Go Go.RowKit Go.Shelf
/-- estoppel/quantity.Basket -/
def g_quantity_Basket_o (a1 : List D.Unit) (a2 : List D.Amount) : Option (List D.Ratio × Int) :=
  (g_estoppel_quantity_table_all_o a1 a2).bind fun x_43084 =>
  if (!x_43084) = true then
  some ([], 1)
  else
  (makeO 16 (D.Ratio.mk 0 0) (a1.length : Int) (a1.length : Int)).bind fun x_43098 =>
  bindF (ρ := List D.Ratio) (
  loopO (σ := List D.Ratio × Int) (fun s_43168 =>
  if (decide (s_43168.2 < (x_43098.length : Int))) = true then
  (getI s_43168.1 s_43168.2).bind fun x_43181 =>
  some (.inl ((setI s_43168.1 s_43168.2 (D.Ratio.mk 0 1)), (IntKind.i64.wrap (s_43168.2 + 1))))
  else
  some (.inr (.inl s_43168.1))) (x_43098, 0)) (fun (e_43139 : List D.Ratio) =>
  (g_quantity_gather_value_Basket_1_Basket_2_v2 a2 a1 e_43139).bind fun x_43186 =>
  if (x_43186.2 != 0) = true then
  some ([], x_43186.2)
  else
  some (x_43186.1, 0))
set_option maxHeartbeats 4000000 in
theorem g_quantity_Basket_o_ok {a1 : List D.Unit} {a2 : List D.Amount} {res : List D.Ratio × Int} (h : g_quantity_Basket_o a1 a2 = some res) : SpecK Tryd.prog [0] 21 [.own 0 a1.length, sl 3 cs_Amount a2] [(0, ⟨42, 5, flat cs_Unit a1⟩)] 1 (.tup [sl 2 cs_Ratio res.1, I res.2]) [(0, ⟨42, 5, flat cs_Unit a1⟩)] 1 := by
  refine ⟨spec_of_wp Tryd.func21 (by kernel_rfl) rfl Tryd.ntmps21 (by rw [Tryd.results21]) (leB rfl) ?_, by kernel_rfl, ⟨⟨leB rfl, flat_all (AV.keyed 0 4) (fun _ => rfl) _⟩, trivial⟩, by kernel_rfl, ⟨⟨leB rfl, flat_all (AV.keyed 0 4) (fun _ => rfl) _⟩, trivial⟩, by kernel_rfl⟩
  unfold g_quantity_Basket_o at h
  refine w_reg ⟨[(0, .own 0 a1.length), (1, sl 3 cs_Amount a2)], [(0, ⟨42, 5, flat cs_Unit a1⟩)], 1⟩ (by kernel_rfl) (leB rfl) ?_
  refine w_reg ⟨[(1, sl 3 cs_Amount a2), (6, .ptr 1 0)], [(1, ⟨55, 0, [.own 0 a1.length]⟩), (0, ⟨42, 5, flat cs_Unit a1⟩)], 2⟩ (by kernel_rfl) (leB rfl) ?_
  refine w_assoc ?_
  refine w_seq (fun K hK_43083 => w_reg0 ?_)
  refine dd_run 0 2 rfl (by kernel_rfl) ?_
  obtain ⟨x_43084, h_43085, h⟩ := bind_some' h
  refine dd_one 2 (.call ⟨.value (.func 38), #[(.tmp 11), (.tmp 12)], #[55, 23]⟩) (some 13) (by kernel_rfl) (o_callE [0] (g_estoppel_quantity_table_all_o_ok h_43085) (by kernel_rfl) (by kernel_rfl) (by kernel_rfl) rfl) ?_
  refine ops_fin' hK_43083 ⟨[(1, sl 3 cs_Amount a2), (6, .ptr 1 0), (14, B (!x_43084))], [(0, ⟨42, 5, flat cs_Unit a1⟩), (1, ⟨55, 0, [.own 0 a1.length]⟩)], 2⟩ (by kernel_rfl) (leB rfl) ?_
  refine w_seq (fun K hK_43087 => ?_)
  refine w_ite h (by kernel_rfl) (fun h_43088 h => ?_) (fun h_43088 h => ?_)
  · refine w_reg ⟨[(4, Nl), (5, I 1)], [(0, ⟨42, 5, flat cs_Unit a1⟩), (1, ⟨55, 0, [.own 0 a1.length]⟩)], 2⟩ (by kernel_rfl) (leB rfl) ?_
    refine w_ret ?_
    obtain rfl := ((Option.some.inj h).symm).symm
    exact ret_leaf (.inl rfl) ⟨[(4, sl 2 cs_Ratio []), (5, I 1)], [(0, ⟨42, 5, flat cs_Unit a1⟩)], 1⟩ (to_trans (to_put 4 (leB rfl) (by kernel_rfl) (Sub.nil 2)) (to_ren [] (leB rfl) (by kernel_rfl) (by kernel_rfl) (renE_of (by kernel_rfl) (by kernel_rfl)) ⟨rePl (by kernel_rfl) (leB rfl) (flat_all _ (fun _ => rfl) _), trivial⟩)) [sl 2 cs_Ratio [], I 1] (by kernel_rfl) (by kernel_rfl) (leB rfl) (by kernel_rfl) ⟨⟨by kernel_rfl, leB rfl, (flat_all _ (fun _ => rfl) _)⟩, trivial⟩
  · refine w_skip ?_
    refine hK_43087 _ ⟨[(1, sl 3 cs_Amount a2), (6, .ptr 1 0)], [(0, ⟨42, 5, flat cs_Unit a1⟩), (1, ⟨55, 0, [.own 0 a1.length]⟩)], 2⟩ (to_trim (by kernel_rfl) (leB rfl)) ?_
    refine w_seq (fun K hK_43095 => w_reg0 ?_)
    refine dd_run 0 2 rfl (by kernel_rfl) ?_
    obtain ⟨x_43098, h_43099, h⟩ := bind_some' h
    refine dd_one 2 (.makeSlice 24 (.tmp 16) (.tmp 16)) (some 17) (by kernel_rfl) (o_heap (.own 2 x_43098.length) [(2, ⟨31, 2, flat cs_Ratio x_43098⟩), (0, ⟨42, 5, flat cs_Unit a1⟩), (1, ⟨55, 0, [.own 0 a1.length]⟩)] 3 (by kernel_rfl) (hv_make (e := 31) (k := 2) (c := cs_Ratio) (ik := .i64) (jk := .i64) h_43099 (by kernel_rfl) (by kernel_rfl) (by kernel_rfl) (by kernel_rfl) (leB rfl) rfl (by kernel_rfl) (by kernel_rfl)) rfl) ?_
    refine ops_fin' hK_43095 ⟨[(1, sl 3 cs_Amount a2), (6, .ptr 1 0), (7, .ptr 3 0)], [(3, ⟨24, 0, [.own 2 x_43098.length]⟩), (2, ⟨31, 2, flat cs_Ratio x_43098⟩), (0, ⟨42, 5, flat cs_Unit a1⟩), (1, ⟨55, 0, [.own 0 a1.length]⟩)], 4⟩ (by kernel_rfl) (leB rfl) ?_
    refine w_assoc ?_
    refine w_reg ⟨[(1, sl 3 cs_Amount a2), (6, .ptr 1 0), (7, .ptr 3 0), (19, I (x_43098.length : Int)), (20, I 0)], [(3, ⟨24, 0, [.own 2 x_43098.length]⟩), (2, ⟨31, 2, flat cs_Ratio x_43098⟩), (0, ⟨42, 5, flat cs_Unit a1⟩), (1, ⟨55, 0, [.own 0 a1.length]⟩)], 4⟩ (by kernel_rfl) (leB rfl) ?_
    refine w_cut h (fun (e_43139 : List D.Ratio) => ⟨[(1, sl 3 cs_Amount a2), (6, .ptr 1 0), (7, .ptr 2 0)], [(0, ⟨42, 5, flat cs_Unit a1⟩), (1, ⟨55, 0, [.own 0 a1.length]⟩), (2, ⟨24, 0, [.own 3 e_43139.length]⟩), (3, ⟨31, 2, flat cs_Ratio e_43139⟩)], 4⟩) (fun o h h_43140 K hK_43141 => ?_) (fun e_43139 h => ?_)
    · refine w_block ?_
      refine w_loopO h (fun (s_43168 : List D.Ratio × Int) => ⟨[(1, sl 3 cs_Amount a2), (6, .ptr 1 0), (7, .ptr 2 0), (19, I (x_43098.length : Int)), (20, I s_43168.2)], [(0, ⟨42, 5, flat cs_Unit a1⟩), (1, ⟨55, 0, [.own 0 a1.length]⟩), (2, ⟨24, 0, [.own 3 s_43168.1.length]⟩), (3, ⟨31, 2, flat cs_Ratio s_43168.1⟩)], 4⟩) (to_ren [(2, 3), (3, 2)] (leB rfl) (by kernel_rfl) (by kernel_rfl) (renE_of (by kernel_rfl) (by kernel_rfl)) ⟨rePl (by kernel_rfl) (leB rfl) (flat_all _ (fun _ => rfl) _), ⟨reRn (by kernel_rfl) (leB rfl) (by kernel_rfl), ⟨reRn (by kernel_rfl) (leB rfl) (by kernel_rfl), ⟨rePl (by kernel_rfl) (leB rfl) (flat_all _ (fun _ => rfl) _), trivial⟩⟩⟩⟩) (fun s_43168 o h h_43169 K hK_43170 => ?_)
      · refine w_reg ⟨[(1, sl 3 cs_Amount a2), (6, .ptr 1 0), (7, .ptr 2 0), (19, I (x_43098.length : Int)), (20, I s_43168.2), (21, B (decide (s_43168.2 < (x_43098.length : Int))))], [(0, ⟨42, 5, flat cs_Unit a1⟩), (1, ⟨55, 0, [.own 0 a1.length]⟩), (2, ⟨24, 0, [.own 3 s_43168.1.length]⟩), (3, ⟨31, 2, flat cs_Ratio s_43168.1⟩)], 4⟩ (by kernel_rfl) (leB rfl) ?_
        refine w_seq (fun K hK_43172 => ?_)
        refine w_ite h (by kernel_rfl) (fun h_43173 h => ?_) (fun h_43173 h => ?_)
        · refine w_skip ?_
          refine hK_43172 _ ⟨[(1, sl 3 cs_Amount a2), (6, .ptr 1 0), (7, .ptr 2 0), (19, I (x_43098.length : Int)), (20, I s_43168.2)], [(0, ⟨42, 5, flat cs_Unit a1⟩), (1, ⟨55, 0, [.own 0 a1.length]⟩), (2, ⟨24, 0, [.own 3 s_43168.1.length]⟩), (3, ⟨31, 2, flat cs_Ratio s_43168.1⟩)], 4⟩ (to_trim (by kernel_rfl) (leB rfl)) ?_
          refine w_seq (fun K hK_43178 => ?_)
          refine w_block ?_
          refine w_reg ⟨[(1, sl 3 cs_Amount a2), (6, .ptr 1 0), (7, .ptr 2 0), (8, I s_43168.2), (19, I (x_43098.length : Int)), (20, I s_43168.2)], [(0, ⟨42, 5, flat cs_Unit a1⟩), (1, ⟨55, 0, [.own 0 a1.length]⟩), (2, ⟨24, 0, [.own 3 s_43168.1.length]⟩), (3, ⟨31, 2, flat cs_Ratio s_43168.1⟩)], 4⟩ (by kernel_rfl) (leB rfl) ?_
          refine w_reg0 ?_
          refine dd_run 0 3 rfl (by kernel_rfl) ?_
          obtain ⟨x_43181, h_43182, h⟩ := bind_some' h
          refine dd_one 3 (.indexAddr 24 (.tmp 23) (.tmp 24)) (some 26) (by kernel_rfl) (o_pure (.ptr 3 (s_43168.2.toNat * 2)) (ev_idx_own (N := s_43168.1.length) (e := 31) (k := 2) (ik := .i64) h_43182 rfl (by kernel_rfl) (by kernel_rfl) (by kernel_rfl) (by kernel_rfl)) rfl) ?_
          refine dd_one 4 (.store 31 (.tmp 26) (.tmp 25)) none (by kernel_rfl) (o_heap (U) [(0, ⟨42, 5, flat cs_Unit a1⟩), (1, ⟨55, 0, [.own 0 a1.length]⟩), (2, ⟨24, 0, [.own 3 s_43168.1.length]⟩), (3, ⟨31, 2, flat cs_Ratio (setI s_43168.1 s_43168.2 (D.Ratio.mk 0 1))⟩)] 4 (by kernel_rfl) (hv_store_row (o := s_43168.2.toNat * 2) (b := 3) (y := .agg [I 0, I 1]) (i := s_43168.2.toNat) (j := 0) (k := 2) (s := 2) (c := cs_Ratio) (a' := (D.Ratio.mk 0 1)) (sz := 2) (ty := 31) (fun _ => rfl) (getI_some h_43182).2 rfl (by kernel_rfl) (by kernel_rfl) (by kernel_rfl) (by kernel_rfl) (by kernel_rfl) (by kernel_rfl) (leB rfl) (by kernel_rfl)) rfl) ?_
          refine dd_nil 5 rfl ?_
          refine hK_43178 _ ⟨[(1, sl 3 cs_Amount a2), (6, .ptr 1 0), (7, .ptr 2 0), (19, I (x_43098.length : Int)), (20, I s_43168.2)], [(0, ⟨42, 5, flat cs_Unit a1⟩), (1, ⟨55, 0, [.own 0 a1.length]⟩), (2, ⟨24, 0, [.own 3 s_43168.1.length]⟩), (3, ⟨31, 2, flat cs_Ratio (setI s_43168.1 s_43168.2 (D.Ratio.mk 0 1))⟩)], 4⟩ (to_trim (by kernel_rfl) (leB rfl)) ?_
          refine w_reg0 ?_
          refine dd_run 0 2 rfl (by kernel_rfl) ?_
          refine dd_nil 2 rfl ?_
          exact hK_43170 _ _ (Option.some.inj h).symm (to_trans (to_cell 2 0 (q := ⟨24, 0, [.own 3 s_43168.1.length]⟩) (leB rfl) (by kernel_rfl) (by kernel_rfl) (Sub.of_eq (show AV.own 3 s_43168.1.length = AV.own 3 (setI s_43168.1 s_43168.2 (D.Ratio.mk 0 1)).length by simp [setI]))) (to_ren [] (leB rfl) (by kernel_rfl) (by kernel_rfl) (renE_of (by kernel_rfl) (by kernel_rfl)) ⟨rePl (by kernel_rfl) (leB rfl) (flat_all _ (fun _ => rfl) _), ⟨reRn (by kernel_rfl) (leB rfl) (by kernel_rfl), ⟨reRn (by kernel_rfl) (leB rfl) (by kernel_rfl), ⟨rePl (by kernel_rfl) (leB rfl) (flat_all _ (fun _ => rfl) _), trivial⟩⟩⟩⟩))
        · refine w_exit ?_
          exact hK_43141 _ _ (h_43169 _ (Option.some.inj h).symm).symm (to_ren [] (leB rfl) (by kernel_rfl) (by kernel_rfl) (renE_of (by kernel_rfl) (by kernel_rfl)) ⟨rePl (by kernel_rfl) (leB rfl) (flat_all _ (fun _ => rfl) _), ⟨reRn (by kernel_rfl) (leB rfl) (by kernel_rfl), ⟨reRn (by kernel_rfl) (leB rfl) (by kernel_rfl), ⟨rePl (by kernel_rfl) (leB rfl) (flat_all _ (fun _ => rfl) _), trivial⟩⟩⟩⟩)
    · refine w_seq (fun K hK_43185 => w_reg0 ?_)
      refine dd_run 0 5 rfl (by kernel_rfl) ?_
      obtain ⟨x_43186, h_43187, h⟩ := bind_some' h
      refine dd_one 5 (.call ⟨.value (.func 39), #[(.tmp 28), (.tmp 30), (.tmp 31), (.tmp 32)], #[23, 62, 67, 68]⟩) (some 33) (by kernel_rfl) (o_callE [0, 1, 2, 3] (g_quantity_gather_value_Basket_1_Basket_2_v2_ok h_43187) (by kernel_rfl) (by kernel_rfl) (by kernel_rfl) rfl) ?_
      refine ops_fin' hK_43185 ⟨[(7, .ptr 2 0), (9, I x_43186.2)], [(0, ⟨42, 5, flat cs_Unit a1⟩), (1, ⟨55, 0, [.own 0 a1.length]⟩), (2, ⟨24, 0, [.own 3 x_43186.1.length]⟩), (3, ⟨31, 2, flat cs_Ratio x_43186.1⟩)], 4⟩ (by kernel_rfl) (leB rfl) ?_
      refine w_assoc ?_
      refine w_reg ⟨[(7, .ptr 2 0), (9, I x_43186.2), (35, B (x_43186.2 != 0))], [(0, ⟨42, 5, flat cs_Unit a1⟩), (1, ⟨55, 0, [.own 0 a1.length]⟩), (2, ⟨24, 0, [.own 3 x_43186.1.length]⟩), (3, ⟨31, 2, flat cs_Ratio x_43186.1⟩)], 4⟩ (by kernel_rfl) (leB rfl) ?_
      refine w_seq (fun K hK_43189 => ?_)
      refine w_ite h (by kernel_rfl) (fun h_43190 h => ?_) (fun h_43190 h => ?_)
      · refine w_reg ⟨[(4, Nl), (5, I x_43186.2)], [(0, ⟨42, 5, flat cs_Unit a1⟩), (1, ⟨55, 0, [.own 0 a1.length]⟩), (2, ⟨24, 0, [.own 3 x_43186.1.length]⟩), (3, ⟨31, 2, flat cs_Ratio x_43186.1⟩)], 4⟩ (by kernel_rfl) (leB rfl) ?_
        refine w_ret ?_
        obtain rfl := ((Option.some.inj h).symm).symm
        exact ret_leaf (.inl rfl) ⟨[(4, sl 2 cs_Ratio []), (5, I x_43186.2)], [(0, ⟨42, 5, flat cs_Unit a1⟩)], 1⟩ (to_trans (to_put 4 (leB rfl) (by kernel_rfl) (Sub.nil 2)) (to_ren [] (leB rfl) (by kernel_rfl) (by kernel_rfl) (renE_of (by kernel_rfl) (by kernel_rfl)) ⟨rePl (by kernel_rfl) (leB rfl) (flat_all _ (fun _ => rfl) _), trivial⟩)) [sl 2 cs_Ratio [], I x_43186.2] (by kernel_rfl) (by kernel_rfl) (leB rfl) (by kernel_rfl) ⟨⟨by kernel_rfl, leB rfl, (flat_all _ (fun _ => rfl) _)⟩, trivial⟩
      · refine w_skip ?_
        refine hK_43189 _ ⟨[(7, .ptr 2 0)], [(0, ⟨42, 5, flat cs_Unit a1⟩), (1, ⟨55, 0, [.own 0 a1.length]⟩), (2, ⟨24, 0, [.own 3 x_43186.1.length]⟩), (3, ⟨31, 2, flat cs_Ratio x_43186.1⟩)], 4⟩ (to_trim (by kernel_rfl) (leB rfl)) ?_
        refine w_reg ⟨[(4, .own 3 x_43186.1.length), (5, I 0)], [(0, ⟨42, 5, flat cs_Unit a1⟩), (1, ⟨55, 0, [.own 0 a1.length]⟩), (2, ⟨24, 0, [.own 3 x_43186.1.length]⟩), (3, ⟨31, 2, flat cs_Ratio x_43186.1⟩)], 4⟩ (by kernel_rfl) (leB rfl) ?_
        refine w_ret ?_
        obtain rfl := ((Option.some.inj h).symm).symm
        exact ret_leaf (.inl rfl) ⟨[(4, sl 2 cs_Ratio x_43186.1), (5, I 0)], [(0, ⟨42, 5, flat cs_Unit a1⟩)], 1⟩ (to_trans (to_freeze 4 3 x_43186.1.length ⟨31, 2, flat cs_Ratio x_43186.1⟩ (x_43186.1.map cs_Ratio) (leB rfl) (by kernel_rfl) (by kernel_rfl) (leB rfl) (by simp [setI]) rfl (fun e he => by obtain ⟨x, _, rfl⟩ := List.mem_map.1 he; rfl) (fun e he a ha => by obtain ⟨x, _, rfl⟩ := List.mem_map.1 he; exact all_and (fun _ => rfl) (fun _ => rfl) x a ha)) (to_ren [] (leB rfl) (by kernel_rfl) (by kernel_rfl) (renE_of (by kernel_rfl) (by kernel_rfl)) ⟨rePl (by kernel_rfl) (leB rfl) (flat_all _ (fun _ => rfl) _), trivial⟩)) [sl 2 cs_Ratio x_43186.1, I 0] (by kernel_rfl) (by kernel_rfl) (leB rfl) (by kernel_rfl) ⟨⟨by kernel_rfl, leB rfl, (flat_all _ (fun _ => rfl) _)⟩, trivial⟩
end Go.Proofs.YtdfokoapenhalaaDoor.Ab
