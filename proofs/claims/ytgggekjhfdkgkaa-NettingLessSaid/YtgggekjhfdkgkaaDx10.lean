/- Functions of the program as plain functions (printed by wip/dec.py). -/
import Derived.Test.YtgggekjhfdkgkaaDx8
import Derived.Test.YtgggekjhfdkgkaaDx9
namespace Go.Proofs.Ytgggekjhfdkgkaa.Ab
open Go Go.RowKit Go.Shelf
/-- estoppel/estoppelref42.between -/
def g_estoppelref42_between (a1 : List D.Debt) (a2 : Int) (a3 : Int) : Option (List D.Debt) :=
  bindF (ρ := List D.Debt) (
  loopO (σ := List D.Debt × Int) (fun s_20847 =>
  if (decide (s_20847.2 < (a1.length : Int))) = true then
  bindF (ρ := List D.Debt × Bool) (
  (getI a1 s_20847.2).bind fun x_20990 =>
  if (x_20990.From == a2) = true then
  (getI a1 s_20847.2).bind fun x_20997 =>
  if (x_20997.To == a3) = true then
  some (.inl (s_20847.1, true))
  else
  (getI a1 s_20847.2).bind fun x_21004 =>
  if (x_21004.From == a3) = true then
  (getI a1 s_20847.2).bind fun x_21011 =>
  some (.inl (s_20847.1, (x_21011.To == a2)))
  else
  some (.inl (s_20847.1, false))
  else
  (getI a1 s_20847.2).bind fun x_21017 =>
  if (x_21017.From == a3) = true then
  (getI a1 s_20847.2).bind fun x_21024 =>
  some (.inl (s_20847.1, (x_21024.To == a2)))
  else
  some (.inl (s_20847.1, false))) (fun (e_20985 : List D.Debt × Bool) =>
  if e_20985.2 = true then
  (getI a1 s_20847.2).bind fun x_21029 =>
  (appO 32 e_20985.1 [x_21029]).bind fun x_21033 =>
  some (.inl (x_21033, (IntKind.i64.wrap (s_20847.2 + 1))))
  else
  some (.inl (e_20985.1, (IntKind.i64.wrap (s_20847.2 + 1)))))
  else
  some (.inr (.inl s_20847.1))) ([], 0)) (fun (e_20472 : List D.Debt) =>
  some e_20472)
set_option maxHeartbeats 4000000 in
theorem g_estoppelref42_between_ok {a1 : List D.Debt} {a2 : Int} {a3 : Int} {res : List D.Debt} (h : g_estoppelref42_between a1 a2 a3 = some res) : SpecK Try.prog [] 31 [sl 4 cs_Debt a1, I a2, I a3] [] 0 (sl 4 cs_Debt res) [] 0 := by
  refine ⟨spec_of_wp Try.func31 (by kernel_rfl) rfl Try.ntmps31 (by rw [Try.results31]) (leB rfl) ?_, by kernel_rfl, trivial, by kernel_rfl, trivial, by kernel_rfl⟩
  unfold g_estoppelref42_between at h
  refine w_reg ⟨[(0, sl 4 cs_Debt a1), (1, I a2), (2, I a3)], [], 0⟩ (by kernel_rfl) (leB rfl) ?_
  refine w_reg ⟨[(0, sl 4 cs_Debt a1), (1, I a2), (2, I a3), (7, Nl)], [], 0⟩ (by kernel_rfl) (leB rfl) ?_
  refine w_assoc ?_
  refine w_reg ⟨[(0, sl 4 cs_Debt a1), (1, I a2), (2, I a3), (7, Nl), (8, I 0)], [], 0⟩ (by kernel_rfl) (leB rfl) ?_
  refine w_cut h (fun (e_20472 : List D.Debt) => ⟨[(7, sl 4 cs_Debt e_20472)], [], 0⟩) (fun o h h_20473 K hK_20474 => ?_) (fun e_20472 h => ?_)
  · refine w_block ?_
    refine w_loopO h (fun (s_20847 : List D.Debt × Int) => ⟨[(0, sl 4 cs_Debt a1), (1, I a2), (2, I a3), (7, growE 0 s_20847.1), (8, I s_20847.2)], (growH 0 ⟨38, 4, flat cs_Debt s_20847.1⟩ s_20847.1 []), 1⟩) (to_ren [] (leB rfl) (by kernel_rfl) (by kernel_rfl) (renE_of (by kernel_rfl) (by kernel_rfl)) trivial) (fun s_20847 o h h_20848 K hK_20849 => ?_)
    · refine w_assoc ?_
      refine w_seq (fun K hK_20850 => w_reg0 ?_)
      refine dd_run 0 2 rfl (by kernel_rfl) ?_
      refine dd_one 2 (.call ⟨.builtin .len, #[(.tmp 10)], #[22]⟩) (some 11) (by kernel_rfl) (o_pure (I (a1.length : Int)) (ev_len_sl (e := 38) (ty := 0) (k := 4) (c := cs_Debt) (by kernel_rfl) (by kernel_rfl)) rfl) ?_
      refine ops_fin' hK_20850 ⟨[(0, sl 4 cs_Debt a1), (1, I a2), (2, I a3), (7, growE 0 s_20847.1), (8, I s_20847.2), (12, B (decide (s_20847.2 < (a1.length : Int))))], (growH 0 ⟨38, 4, flat cs_Debt s_20847.1⟩ s_20847.1 []), 1⟩ (by kernel_rfl) (leB rfl) ?_
      refine w_seq (fun K hK_20852 => ?_)
      refine w_ite h (by kernel_rfl) (fun h_20853 h => ?_) (fun h_20853 h => ?_)
      · refine w_skip ?_
        refine hK_20852 _ ⟨[(0, sl 4 cs_Debt a1), (1, I a2), (2, I a3), (7, growE 0 s_20847.1), (8, I s_20847.2)], (growH 0 ⟨38, 4, flat cs_Debt s_20847.1⟩ s_20847.1 []), 1⟩ (to_trim (by kernel_rfl) (leB rfl)) ?_
        refine w_seq (fun K hK_20944 => ?_)
        refine w_block ?_
        refine w_cut h (fun (e_20985 : List D.Debt × Bool) => ⟨[(0, sl 4 cs_Debt a1), (1, I a2), (2, I a3), (7, growE 0 e_20985.1), (8, I s_20847.2), (48, B e_20985.2)], (growH 0 ⟨38, 4, flat cs_Debt e_20985.1⟩ e_20985.1 []), 1⟩) (fun o h h_20986 K hK_20987 => ?_) (fun e_20985 h => ?_)
        · refine w_reg0 ?_
          refine dd_run 0 2 rfl (by kernel_rfl) ?_
          obtain ⟨x_20990, h_20991, h⟩ := bind_some' h
          refine dd_one 2 (.indexAddr 22 (.tmp 15) (.tmp 16)) (some 17) (by kernel_rfl) (o_pure (.ip (cs_Debt x_20990)) (ev_idx_sl (e := 38) (k := 4) (c := cs_Debt) (ik := .i64) h_20991 (by kernel_rfl) (by kernel_rfl) (by kernel_rfl) (by kernel_rfl)) rfl) ?_
          refine dd_run 3 8 rfl (by kernel_rfl) ?_
          refine ite_both h (fun h_20992 h => ?_) (fun h_20992 h => ?_)
          · refine dd_runG 8 10 7 true rfl (b := (x_20990.From == a2)) (by kernel_rfl) h_20992 (by kernel_rfl) ?_
            obtain ⟨x_20997, h_20998, h⟩ := bind_some' h
            refine dd_oneG 10 (.indexAddr 22 (.tmp 23) (.tmp 24)) (some 25) 7 true (b := (x_20990.From == a2)) (by kernel_rfl) (by kernel_rfl) h_20992 (o_pure (.ip (cs_Debt x_20997)) (ev_idx_sl (e := 38) (k := 4) (c := cs_Debt) (ik := .i64) h_20998 (by kernel_rfl) (by kernel_rfl) (by kernel_rfl) (by kernel_rfl)) rfl) ?_
            refine dd_runG 11 15 7 true rfl (b := (x_20990.From == a2)) (by kernel_rfl) h_20992 (by kernel_rfl) ?_
            refine dd_one 15 (.pick (.tmp 22) (.tmp 29) (.const (.bool false))) (some 30) (by kernel_rfl) (o_pure (B (x_20997.To == a3)) (ev_pickT h_20992 (by kernel_rfl) (by kernel_rfl)) rfl) ?_
            refine dd_run 16 17 rfl (by kernel_rfl) ?_
            refine ite_both h (fun h_20999 h => ?_) (fun h_20999 h => ?_)
            · refine dd_skip 17 25 16 false rfl (b := (x_20997.To == a3)) (by kernel_rfl) h_20999 (by kernel_rfl) ?_
              refine dd_skipU 25 32 24 true rfl (by kernel_rfl) (by kernel_rfl) ?_
              refine dd_skip 32 33 16 false rfl (b := (x_20997.To == a3)) (by kernel_rfl) h_20999 (by kernel_rfl) ?_
              refine dd_one 33 (.pick (.tmp 31) (.const (.bool true)) (.tmp 47)) (some 48) (by kernel_rfl) (o_pure (B true) (ev_pickT h_20999 (by kernel_rfl) (by kernel_rfl)) rfl) ?_
              refine dd_nil 34 rfl ?_
              refine hK_20987 _ _ (Option.some.inj h).symm ?_
              cases s_20847.1 with
              | nil =>
                exact to_ren [] (leB rfl) (by kernel_rfl) (by kernel_rfl) (renE_of (by kernel_rfl) (by kernel_rfl)) trivial
              | cons y_ ys_ =>
                exact to_ren [] (leB rfl) (by kernel_rfl) (by kernel_rfl) (renE_of (by kernel_rfl) (by kernel_rfl)) ⟨rePl (by kernel_rfl) (leB rfl) (flat_all _ (fun _ => rfl) _), trivial⟩
            · refine dd_runG 17 19 16 false rfl (b := (x_20997.To == a3)) (by kernel_rfl) h_20999 (by kernel_rfl) ?_
              obtain ⟨x_21004, h_21005, h⟩ := bind_some' h
              refine dd_oneG 19 (.indexAddr 22 (.tmp 32) (.tmp 33)) (some 34) 16 false (b := (x_20997.To == a3)) (by kernel_rfl) (by kernel_rfl) h_20999 (o_pure (.ip (cs_Debt x_21004)) (ev_idx_sl (e := 38) (k := 4) (c := cs_Debt) (ik := .i64) h_21005 (by kernel_rfl) (by kernel_rfl) (by kernel_rfl) (by kernel_rfl)) rfl) ?_
              refine dd_runG 20 25 16 false rfl (b := (x_20997.To == a3)) (by kernel_rfl) h_20999 (by kernel_rfl) ?_
              refine ite_both h (fun h_21006 h => ?_) (fun h_21006 h => ?_)
              · refine dd_runG 25 27 24 true rfl (b := (x_21004.From == a3)) (by kernel_rfl) h_21006 (by kernel_rfl) ?_
                obtain ⟨x_21011, h_21012, h⟩ := bind_some' h
                refine dd_oneG 27 (.indexAddr 22 (.tmp 40) (.tmp 41)) (some 42) 24 true (b := (x_21004.From == a3)) (by kernel_rfl) (by kernel_rfl) h_21006 (o_pure (.ip (cs_Debt x_21011)) (ev_idx_sl (e := 38) (k := 4) (c := cs_Debt) (ik := .i64) h_21012 (by kernel_rfl) (by kernel_rfl) (by kernel_rfl) (by kernel_rfl)) rfl) ?_
                refine dd_runG 28 32 24 true rfl (b := (x_21004.From == a3)) (by kernel_rfl) h_21006 (by kernel_rfl) ?_
                refine dd_oneG 32 (.pick (.tmp 39) (.tmp 46) (.const (.bool false))) (some 47) 16 false (b := (x_20997.To == a3)) (by kernel_rfl) (by kernel_rfl) h_20999 (o_pure (B (x_21011.To == a2)) (ev_pickT h_21006 (by kernel_rfl) (by kernel_rfl)) rfl) ?_
                refine dd_one 33 (.pick (.tmp 31) (.const (.bool true)) (.tmp 47)) (some 48) (by kernel_rfl) (o_pure (B (x_21011.To == a2)) (ev_pickF h_20999 (by kernel_rfl) (by kernel_rfl)) rfl) ?_
                refine dd_nil 34 rfl ?_
                refine hK_20987 _ _ (Option.some.inj h).symm ?_
                cases s_20847.1 with
                | nil =>
                  exact to_ren [] (leB rfl) (by kernel_rfl) (by kernel_rfl) (renE_of (by kernel_rfl) (by kernel_rfl)) trivial
                | cons y_ ys_ =>
                  exact to_ren [] (leB rfl) (by kernel_rfl) (by kernel_rfl) (renE_of (by kernel_rfl) (by kernel_rfl)) ⟨rePl (by kernel_rfl) (leB rfl) (flat_all _ (fun _ => rfl) _), trivial⟩
              · refine dd_skip 25 32 24 true rfl (b := (x_21004.From == a3)) (by kernel_rfl) h_21006 (by kernel_rfl) ?_
                refine dd_oneG 32 (.pick (.tmp 39) (.tmp 46) (.const (.bool false))) (some 47) 16 false (b := (x_20997.To == a3)) (by kernel_rfl) (by kernel_rfl) h_20999 (o_pure (B false) (ev_pickF h_21006 (by kernel_rfl) (by kernel_rfl)) rfl) ?_
                refine dd_one 33 (.pick (.tmp 31) (.const (.bool true)) (.tmp 47)) (some 48) (by kernel_rfl) (o_pure (B false) (ev_pickF h_20999 (by kernel_rfl) (by kernel_rfl)) rfl) ?_
                refine dd_nil 34 rfl ?_
                refine hK_20987 _ _ (Option.some.inj h).symm ?_
                cases s_20847.1 with
                | nil =>
                  exact to_ren [] (leB rfl) (by kernel_rfl) (by kernel_rfl) (renE_of (by kernel_rfl) (by kernel_rfl)) trivial
                | cons y_ ys_ =>
                  exact to_ren [] (leB rfl) (by kernel_rfl) (by kernel_rfl) (renE_of (by kernel_rfl) (by kernel_rfl)) ⟨rePl (by kernel_rfl) (leB rfl) (flat_all _ (fun _ => rfl) _), trivial⟩
          · refine dd_skip 8 15 7 true rfl (b := (x_20990.From == a2)) (by kernel_rfl) h_20992 (by kernel_rfl) ?_
            refine dd_one 15 (.pick (.tmp 22) (.tmp 29) (.const (.bool false))) (some 30) (by kernel_rfl) (o_pure (B false) (ev_pickF h_20992 (by kernel_rfl) (by kernel_rfl)) rfl) ?_
            refine dd_run 16 17 rfl (by kernel_rfl) ?_
            refine dd_runG 17 19 16 false rfl (b := false) (by kernel_rfl) rfl (by kernel_rfl) ?_
            obtain ⟨x_21017, h_21018, h⟩ := bind_some' h
            refine dd_oneG 19 (.indexAddr 22 (.tmp 32) (.tmp 33)) (some 34) 16 false (b := false) (by kernel_rfl) (by kernel_rfl) rfl (o_pure (.ip (cs_Debt x_21017)) (ev_idx_sl (e := 38) (k := 4) (c := cs_Debt) (ik := .i64) h_21018 (by kernel_rfl) (by kernel_rfl) (by kernel_rfl) (by kernel_rfl)) rfl) ?_
            refine dd_runG 20 25 16 false rfl (b := false) (by kernel_rfl) rfl (by kernel_rfl) ?_
            refine ite_both h (fun h_21019 h => ?_) (fun h_21019 h => ?_)
            · refine dd_runG 25 27 24 true rfl (b := (x_21017.From == a3)) (by kernel_rfl) h_21019 (by kernel_rfl) ?_
              obtain ⟨x_21024, h_21025, h⟩ := bind_some' h
              refine dd_oneG 27 (.indexAddr 22 (.tmp 40) (.tmp 41)) (some 42) 24 true (b := (x_21017.From == a3)) (by kernel_rfl) (by kernel_rfl) h_21019 (o_pure (.ip (cs_Debt x_21024)) (ev_idx_sl (e := 38) (k := 4) (c := cs_Debt) (ik := .i64) h_21025 (by kernel_rfl) (by kernel_rfl) (by kernel_rfl) (by kernel_rfl)) rfl) ?_
              refine dd_runG 28 32 24 true rfl (b := (x_21017.From == a3)) (by kernel_rfl) h_21019 (by kernel_rfl) ?_
              refine dd_oneG 32 (.pick (.tmp 39) (.tmp 46) (.const (.bool false))) (some 47) 16 false (b := false) (by kernel_rfl) (by kernel_rfl) rfl (o_pure (B (x_21024.To == a2)) (ev_pickT h_21019 (by kernel_rfl) (by kernel_rfl)) rfl) ?_
              refine dd_run 33 34 rfl (by kernel_rfl) ?_
              refine dd_nil 34 rfl ?_
              refine hK_20987 _ _ (Option.some.inj h).symm ?_
              cases s_20847.1 with
              | nil =>
                exact to_ren [] (leB rfl) (by kernel_rfl) (by kernel_rfl) (renE_of (by kernel_rfl) (by kernel_rfl)) trivial
              | cons y_ ys_ =>
                exact to_ren [] (leB rfl) (by kernel_rfl) (by kernel_rfl) (renE_of (by kernel_rfl) (by kernel_rfl)) ⟨rePl (by kernel_rfl) (leB rfl) (flat_all _ (fun _ => rfl) _), trivial⟩
            · refine dd_skip 25 32 24 true rfl (b := (x_21017.From == a3)) (by kernel_rfl) h_21019 (by kernel_rfl) ?_
              refine dd_oneG 32 (.pick (.tmp 39) (.tmp 46) (.const (.bool false))) (some 47) 16 false (b := false) (by kernel_rfl) (by kernel_rfl) rfl (o_pure (B false) (ev_pickF h_21019 (by kernel_rfl) (by kernel_rfl)) rfl) ?_
              refine dd_run 33 34 rfl (by kernel_rfl) ?_
              refine dd_nil 34 rfl ?_
              refine hK_20987 _ _ (Option.some.inj h).symm ?_
              cases s_20847.1 with
              | nil =>
                exact to_ren [] (leB rfl) (by kernel_rfl) (by kernel_rfl) (renE_of (by kernel_rfl) (by kernel_rfl)) trivial
              | cons y_ ys_ =>
                exact to_ren [] (leB rfl) (by kernel_rfl) (by kernel_rfl) (renE_of (by kernel_rfl) (by kernel_rfl)) ⟨rePl (by kernel_rfl) (leB rfl) (flat_all _ (fun _ => rfl) _), trivial⟩
        · refine w_ite h (by kernel_rfl) (fun h_21026 h => ?_) (fun h_21026 h => ?_)
          · refine w_reg0 ?_
            refine dd_run 0 3 rfl (by kernel_rfl) ?_
            obtain ⟨x_21029, h_21030, h⟩ := bind_some' h
            refine dd_one 3 (.indexAddr 22 (.tmp 50) (.tmp 51)) (some 52) (by kernel_rfl) (o_pure (.ip (cs_Debt x_21029)) (ev_idx_sl (e := 38) (k := 4) (c := cs_Debt) (ik := .i64) h_21030 (by kernel_rfl) (by kernel_rfl) (by kernel_rfl) (by kernel_rfl)) rfl) ?_
            refine dd_run 4 6 rfl (by kernel_rfl) ?_
            obtain ⟨x_21033, h_21034, h⟩ := bind_some' h
            refine dd_one 6 (.call ⟨.builtin .append, #[(.tmp 49), (.tmp 54)], #[22, 22]⟩) (some 55) (by kernel_rfl) (o_heap (.own 1 x_21033.length) [(1, ⟨38, 4, flat cs_Debt x_21033⟩)] 2 (by kernel_rfl) (hv_append (sv := growE 0 e_20985.1) (xv := sl 4 cs_Debt [x_21029]) (by kernel_rfl) (by kernel_rfl) (app_new (e := 38) (k := 4) (c := cs_Debt) h_21034 (.inl (appO_pos h_21034)) (by kernel_rfl) (by kernel_rfl) (by kernel_rfl) (by kernel_rfl : zeroT _ _ = some [I 0, I 0, I 0, I 0]) (leB rfl) rfl (old_grow (k := 4) (c := cs_Debt) (A := []) (T := []) (fun _ => rfl) _ (by kernel_rfl) (by kernel_rfl) (by kernel_rfl) (by kernel_rfl)) (new_sl (k := 4) (c := cs_Debt) (fun _ => rfl) _))) rfl) ?_
            refine dd_run 7 8 rfl (by kernel_rfl) ?_
            refine dd_nil 8 rfl ?_
            refine hK_20944 _ ⟨[(0, sl 4 cs_Debt a1), (1, I a2), (2, I a3), (7, .own 1 x_21033.length), (8, I s_20847.2)], [(1, ⟨38, 4, flat cs_Debt x_21033⟩)], 2⟩ (to_trim (by kernel_rfl) (leB rfl)) ?_
            refine w_reg0 ?_
            refine dd_run 0 3 rfl (by kernel_rfl) ?_
            refine dd_nil 3 rfl ?_
            obtain ⟨y_, ys_, hy_⟩ := ne_cons (appO_pos h_21034); subst hy_
            exact hK_20849 _ _ (Option.some.inj h).symm (to_ren [(0, 1)] (leB rfl) (by kernel_rfl) (by kernel_rfl) (renE_of (by kernel_rfl) (by kernel_rfl)) ⟨rePl (by kernel_rfl) (leB rfl) (flat_all _ (fun _ => rfl) _), trivial⟩)
          · refine w_skip ?_
            refine hK_20944 _ ⟨[(0, sl 4 cs_Debt a1), (1, I a2), (2, I a3), (7, growE 0 e_20985.1), (8, I s_20847.2)], (growH 0 ⟨38, 4, flat cs_Debt e_20985.1⟩ e_20985.1 []), 1⟩ (to_trim (by kernel_rfl) (leB rfl)) ?_
            refine w_reg0 ?_
            refine dd_run 0 3 rfl (by kernel_rfl) ?_
            refine dd_nil 3 rfl ?_
            refine hK_20849 _ _ (Option.some.inj h).symm ?_
            cases e_20985.1 with
            | nil =>
              exact to_ren [] (leB rfl) (by kernel_rfl) (by kernel_rfl) (renE_of (by kernel_rfl) (by kernel_rfl)) trivial
            | cons y_ ys_ =>
              exact to_ren [] (leB rfl) (by kernel_rfl) (by kernel_rfl) (renE_of (by kernel_rfl) (by kernel_rfl)) ⟨rePl (by kernel_rfl) (leB rfl) (flat_all _ (fun _ => rfl) _), trivial⟩
      · refine w_exit ?_
        exact hK_20474 _ _ (h_20848 _ (Option.some.inj h).symm).symm (to_trans (to_freezeG 7 0 s_20847.1 38 [] [] (k := 4) (c := cs_Debt) (leB rfl) (by kernel_rfl) (by kernel_rfl) (by kernel_rfl) (free_nil _) (by kernel_rfl) (leB rfl) (fun _ => rfl) (fun _ => rfl) (fun _ => rfl)) (to_ren [] (leB rfl) (by kernel_rfl) (by kernel_rfl) (renE_of (by kernel_rfl) (by kernel_rfl)) trivial))
  · refine w_reg ⟨[(6, sl 4 cs_Debt e_20472)], [], 0⟩ (by kernel_rfl) (leB rfl) ?_
    refine w_ret ?_
    obtain rfl := ((Option.some.inj h).symm).symm
    exact ret_leaf (.inl rfl) ⟨[(6, sl 4 cs_Debt e_20472)], [], 0⟩ (to_ren [] (leB rfl) (by kernel_rfl) (by kernel_rfl) (renE_of (by kernel_rfl) (by kernel_rfl)) trivial) [sl 4 cs_Debt e_20472] (by kernel_rfl) (by kernel_rfl) (leB rfl) (by kernel_rfl) trivial
/-- estoppel/estoppelref42.Pairs -/
def g_estoppelref42_Pairs (a1 : Int) (a2 : List D.Debt) : Option (List D.Debt × Int) :=
  (g_estoppelref42_Valid a1 a2).bind fun x_23573 =>
  if (!x_23573) = true then
  some ([], 1)
  else
  bindF (ρ := List D.Debt) (
  loopO (σ := List D.Debt × Int) (fun s_25696 =>
  if (decide (s_25696.2 < a1)) = true then
  loopO (σ := List D.Debt × Int) (fun s_26050 =>
  if (decide (s_26050.2 < a1)) = true then
  (g_estoppelref42_between a2 s_25696.2 s_26050.2).bind fun x_26094 =>
  (g_estoppelref42_position x_26094 s_26050.2).bind fun x_26096 =>
  if (x_26096.2 != 0) = true then
  some (.inr (.inr (.inr ([], x_26096.2))))
  else
  bindF (ρ := List D.Debt) (
  if (decide (x_26096.1.Num > 0)) = true then
  (appO 32 s_26050.1 [(D.Debt.mk s_25696.2 s_26050.2 x_26096.1)]).bind fun x_26112 =>
  some (.inl x_26112)
  else
  some (.inl s_26050.1)) (fun (e_26106 : List D.Debt) =>
  if (decide (x_26096.1.Num < 0)) = true then
  (g_estoppelref42_Minus x_26096.1).bind fun x_26115 =>
  (appO 32 e_26106 [(D.Debt.mk s_26050.2 s_25696.2 x_26115)]).bind fun x_26119 =>
  some (.inl (x_26119, (IntKind.i64.wrap (s_26050.2 + 1))))
  else
  some (.inl (e_26106, (IntKind.i64.wrap (s_26050.2 + 1)))))
  else
  some (.inr (.inl (s_26050.1, (IntKind.i64.wrap (s_25696.2 + 1)))))) (s_25696.1, (IntKind.i64.wrap (s_25696.2 + 1)))
  else
  some (.inr (.inl s_25696.1))) ([], 0)) (fun (e_24847 : List D.Debt) =>
  some (e_24847, 0))
set_option maxHeartbeats 4000000 in
theorem g_estoppelref42_Pairs_ok {a1 : Int} {a2 : List D.Debt} {res : List D.Debt × Int} (h : g_estoppelref42_Pairs a1 a2 = some res) : SpecK Try.prog [] 13 [I a1, sl 4 cs_Debt a2] [] 0 (.tup [sl 4 cs_Debt res.1, I res.2]) [] 0 := by
  refine ⟨spec_of_wp Try.func13 (by kernel_rfl) rfl Try.ntmps13 (by rw [Try.results13]) (leB rfl) ?_, by kernel_rfl, trivial, by kernel_rfl, trivial, by kernel_rfl⟩
  unfold g_estoppelref42_Pairs at h
  refine w_reg ⟨[(0, I a1), (1, sl 4 cs_Debt a2)], [], 0⟩ (by kernel_rfl) (leB rfl) ?_
  refine w_assoc ?_
  refine w_seq (fun K hK_23572 => w_reg0 ?_)
  refine dd_run 0 2 rfl (by kernel_rfl) ?_
  obtain ⟨x_23573, h_23574, h⟩ := bind_some' h
  refine dd_one 2 (.call ⟨.value (.func 17), #[(.tmp 11), (.tmp 12)], #[3, 22]⟩) (some 13) (by kernel_rfl) (o_callP (g_estoppelref42_Valid_ok h_23574) (by kernel_rfl) rfl) ?_
  refine ops_fin' hK_23572 ⟨[(0, I a1), (1, sl 4 cs_Debt a2), (14, B (!x_23573))], [], 0⟩ (by kernel_rfl) (leB rfl) ?_
  refine w_seq (fun K hK_23576 => ?_)
  refine w_ite h (by kernel_rfl) (fun h_23577 h => ?_) (fun h_23577 h => ?_)
  · refine w_reg ⟨[(4, Nl), (5, I 1)], [], 0⟩ (by kernel_rfl) (leB rfl) ?_
    refine w_ret ?_
    obtain rfl := ((Option.some.inj h).symm).symm
    exact ret_leaf (.inl rfl) ⟨[(4, sl 4 cs_Debt []), (5, I 1)], [], 0⟩ (to_trans (to_put 4 (leB rfl) (by kernel_rfl) (Sub.nil 4)) (to_ren [] (leB rfl) (by kernel_rfl) (by kernel_rfl) (renE_of (by kernel_rfl) (by kernel_rfl)) trivial)) [sl 4 cs_Debt [], I 1] (by kernel_rfl) (by kernel_rfl) (leB rfl) (by kernel_rfl) trivial
  · refine w_skip ?_
    refine hK_23576 _ ⟨[(0, I a1), (1, sl 4 cs_Debt a2)], [], 0⟩ (to_trim (by kernel_rfl) (leB rfl)) ?_
    refine w_reg ⟨[(0, I a1), (1, sl 4 cs_Debt a2), (6, Nl)], [], 0⟩ (by kernel_rfl) (leB rfl) ?_
    refine w_assoc ?_
    refine w_reg ⟨[(0, I a1), (1, sl 4 cs_Debt a2), (6, Nl), (7, I 0)], [], 0⟩ (by kernel_rfl) (leB rfl) ?_
    refine w_cut h (fun (e_24847 : List D.Debt) => ⟨[(6, sl 4 cs_Debt e_24847)], [], 0⟩) (fun o h h_24848 K hK_24849 => ?_) (fun e_24847 h => ?_)
    · refine w_block ?_
      refine w_loopO h (fun (s_25696 : List D.Debt × Int) => ⟨[(0, I a1), (1, sl 4 cs_Debt a2), (6, growE 0 s_25696.1), (7, I s_25696.2)], (growH 0 ⟨38, 4, flat cs_Debt s_25696.1⟩ s_25696.1 []), 1⟩) (to_ren [] (leB rfl) (by kernel_rfl) (by kernel_rfl) (renE_of (by kernel_rfl) (by kernel_rfl)) trivial) (fun s_25696 o h h_25697 K hK_25698 => ?_)
      · refine w_assoc ?_
        refine w_reg ⟨[(0, I a1), (1, sl 4 cs_Debt a2), (6, growE 0 s_25696.1), (7, I s_25696.2), (17, B (decide (s_25696.2 < a1)))], (growH 0 ⟨38, 4, flat cs_Debt s_25696.1⟩ s_25696.1 []), 1⟩ (by kernel_rfl) (leB rfl) ?_
        refine w_seq (fun K hK_25700 => ?_)
        refine w_ite h (by kernel_rfl) (fun h_25701 h => ?_) (fun h_25701 h => ?_)
        · refine w_skip ?_
          refine hK_25700 _ ⟨[(0, I a1), (1, sl 4 cs_Debt a2), (6, growE 0 s_25696.1), (7, I s_25696.2)], (growH 0 ⟨38, 4, flat cs_Debt s_25696.1⟩ s_25696.1 []), 1⟩ (to_trim (by kernel_rfl) (leB rfl)) ?_
          refine w_seq (fun K hK_25911 => ?_)
          refine w_block ?_
          refine w_reg ⟨[(0, I a1), (1, sl 4 cs_Debt a2), (6, growE 0 s_25696.1), (7, I s_25696.2), (8, I (IntKind.i64.wrap (s_25696.2 + 1)))], (growH 0 ⟨38, 4, flat cs_Debt s_25696.1⟩ s_25696.1 []), 1⟩ (by kernel_rfl) (leB rfl) ?_
          refine w_block ?_
          refine w_loopO h (fun (s_26050 : List D.Debt × Int) => ⟨[(0, I a1), (1, sl 4 cs_Debt a2), (6, growE 0 s_26050.1), (7, I s_25696.2), (8, I s_26050.2)], (growH 0 ⟨38, 4, flat cs_Debt s_26050.1⟩ s_26050.1 []), 1⟩) ?_ (fun s_26050 o h h_26051 K hK_26052 => ?_)
          · cases s_25696.1 with
            | nil =>
              exact to_ren [] (leB rfl) (by kernel_rfl) (by kernel_rfl) (renE_of (by kernel_rfl) (by kernel_rfl)) trivial
            | cons y_ ys_ =>
              exact to_ren [] (leB rfl) (by kernel_rfl) (by kernel_rfl) (renE_of (by kernel_rfl) (by kernel_rfl)) ⟨rePl (by kernel_rfl) (leB rfl) (flat_all _ (fun _ => rfl) _), trivial⟩
          · refine w_assoc ?_
            refine w_reg ⟨[(0, I a1), (1, sl 4 cs_Debt a2), (6, growE 0 s_26050.1), (7, I s_25696.2), (8, I s_26050.2), (24, B (decide (s_26050.2 < a1)))], (growH 0 ⟨38, 4, flat cs_Debt s_26050.1⟩ s_26050.1 []), 1⟩ (by kernel_rfl) (leB rfl) ?_
            refine w_seq (fun K hK_26054 => ?_)
            refine w_ite h (by kernel_rfl) (fun h_26055 h => ?_) (fun h_26055 h => ?_)
            · refine w_skip ?_
              refine hK_26054 _ ⟨[(0, I a1), (1, sl 4 cs_Debt a2), (6, growE 0 s_26050.1), (7, I s_25696.2), (8, I s_26050.2)], (growH 0 ⟨38, 4, flat cs_Debt s_26050.1⟩ s_26050.1 []), 1⟩ (to_trim (by kernel_rfl) (leB rfl)) ?_
              refine w_seq (fun K hK_26088 => ?_)
              refine w_block ?_
              refine w_seq (fun K hK_26093 => w_reg0 ?_)
              refine dd_run 0 3 rfl (by kernel_rfl) ?_
              obtain ⟨x_26094, h_26095, h⟩ := bind_some' h
              refine dd_one 3 (.call ⟨.value (.func 31), #[(.tmp 28), (.tmp 29), (.tmp 30)], #[22, 3, 3]⟩) (some 31) (by kernel_rfl) (o_callP (g_estoppelref42_between_ok h_26095) (by kernel_rfl) rfl) ?_
              refine dd_run 4 5 rfl (by kernel_rfl) ?_
              obtain ⟨x_26096, h_26097, h⟩ := bind_some' h
              refine dd_one 5 (.call ⟨.value (.func 28), #[(.tmp 31), (.tmp 32)], #[22, 3]⟩) (some 33) (by kernel_rfl) (o_callP (g_estoppelref42_position_ok h_26097) (by kernel_rfl) rfl) ?_
              refine ops_fin' hK_26093 ⟨[(0, I a1), (1, sl 4 cs_Debt a2), (6, growE 0 s_26050.1), (7, I s_25696.2), (8, I s_26050.2), (9, .ptr 1 0), (10, I x_26096.2)], ((1, ⟨34, 0, (cs_Ratio x_26096.1)⟩) :: (growH 0 ⟨38, 4, flat cs_Debt s_26050.1⟩ s_26050.1 [])), 2⟩ (by kernel_rfl) (leB rfl) ?_
              refine w_assoc ?_
              refine w_reg ⟨[(0, I a1), (1, sl 4 cs_Debt a2), (6, growE 0 s_26050.1), (7, I s_25696.2), (8, I s_26050.2), (9, .ptr 1 0), (10, I x_26096.2), (37, B (x_26096.2 != 0))], ((1, ⟨34, 0, (cs_Ratio x_26096.1)⟩) :: (growH 0 ⟨38, 4, flat cs_Debt s_26050.1⟩ s_26050.1 [])), 2⟩ (by kernel_rfl) (leB rfl) ?_
              refine w_seq (fun K hK_26099 => ?_)
              refine w_ite h (by kernel_rfl) (fun h_26100 h => ?_) (fun h_26100 h => ?_)
              · refine w_reg ⟨[(4, Nl), (5, I x_26096.2)], ((1, ⟨34, 0, (cs_Ratio x_26096.1)⟩) :: (growH 0 ⟨38, 4, flat cs_Debt s_26050.1⟩ s_26050.1 [])), 2⟩ (by kernel_rfl) (leB rfl) ?_
                refine w_ret ?_
                obtain rfl := ((h_24848 _ (h_25697 _ (h_26051 _ (Option.some.inj h).symm).symm).symm).symm).symm
                exact ret_leaf (.inl rfl) ⟨[(4, sl 4 cs_Debt []), (5, I x_26096.2)], [], 0⟩ (to_trans (to_put 4 (leB rfl) (by kernel_rfl) (Sub.nil 4)) (to_ren [] (leB rfl) (by kernel_rfl) (by kernel_rfl) (renE_of (by kernel_rfl) (by kernel_rfl)) trivial)) [sl 4 cs_Debt [], I x_26096.2] (by kernel_rfl) (by kernel_rfl) (leB rfl) (by kernel_rfl) trivial
              · refine w_skip ?_
                refine hK_26099 _ ⟨[(0, I a1), (1, sl 4 cs_Debt a2), (6, growE 0 s_26050.1), (7, I s_25696.2), (8, I s_26050.2), (9, .ptr 1 0)], ((1, ⟨34, 0, (cs_Ratio x_26096.1)⟩) :: (growH 0 ⟨38, 4, flat cs_Debt s_26050.1⟩ s_26050.1 [])), 2⟩ (to_trim (by kernel_rfl) (leB rfl)) ?_
                refine w_assoc ?_
                refine w_reg ⟨[(0, I a1), (1, sl 4 cs_Debt a2), (6, growE 0 s_26050.1), (7, I s_25696.2), (8, I s_26050.2), (9, .ptr 1 0), (41, B (decide (x_26096.1.Num > 0)))], ((1, ⟨34, 0, (cs_Ratio x_26096.1)⟩) :: (growH 0 ⟨38, 4, flat cs_Debt s_26050.1⟩ s_26050.1 [])), 2⟩ (by kernel_rfl) (leB rfl) ?_
                refine w_cut h (fun (e_26106 : List D.Debt) => ⟨[(0, I a1), (1, sl 4 cs_Debt a2), (6, growE 0 e_26106), (7, I s_25696.2), (8, I s_26050.2), (9, .ptr 1 0)], ((1, ⟨34, 0, (cs_Ratio x_26096.1)⟩) :: (growH 0 ⟨38, 4, flat cs_Debt e_26106⟩ e_26106 [])), 2⟩) (fun o h h_26107 K hK_26108 => ?_) (fun e_26106 h => ?_)
                · refine w_ite h (by kernel_rfl) (fun h_26109 h => ?_) (fun h_26109 h => ?_)
                  · refine w_reg0 ?_
                    refine dd_run 0 6 rfl (by kernel_rfl) ?_
                    obtain ⟨x_26112, h_26113, h⟩ := bind_some' h
                    refine dd_one 6 (.call ⟨.builtin .append, #[(.tmp 42), (.tmp 47)], #[22, 22]⟩) (some 48) (by kernel_rfl) (o_heap (.own 2 x_26112.length) [(2, ⟨38, 4, flat cs_Debt x_26112⟩), (1, ⟨34, 0, (cs_Ratio x_26096.1)⟩)] 3 (by kernel_rfl) (hv_append (sv := growE 0 s_26050.1) (xv := sl 4 cs_Debt [(D.Debt.mk s_25696.2 s_26050.2 x_26096.1)]) (by kernel_rfl) (by kernel_rfl) (app_new (e := 38) (k := 4) (c := cs_Debt) h_26113 (.inl (appO_pos h_26113)) (by kernel_rfl) (by kernel_rfl) (by kernel_rfl) (by kernel_rfl : zeroT _ _ = some [I 0, I 0, I 0, I 0]) (leB rfl) rfl (old_grow (k := 4) (c := cs_Debt) (A := [(1, ⟨34, 0, (cs_Ratio x_26096.1)⟩)]) (T := []) (fun _ => rfl) _ (by kernel_rfl) (by kernel_rfl) (by kernel_rfl) (by kernel_rfl)) (new_sl (k := 4) (c := cs_Debt) (fun _ => rfl) _))) rfl) ?_
                    refine dd_run 7 8 rfl (by kernel_rfl) ?_
                    refine dd_nil 8 rfl ?_
                    obtain ⟨y_, ys_, hy_⟩ := ne_cons (appO_pos h_26113); subst hy_
                    exact hK_26108 _ _ (Option.some.inj h).symm (to_ren [(0, 2)] (leB rfl) (by kernel_rfl) (by kernel_rfl) (renE_of (by kernel_rfl) (by kernel_rfl)) ⟨reRn (by kernel_rfl) (leB rfl) (by kernel_rfl), ⟨rePl (by kernel_rfl) (leB rfl) (flat_all _ (fun _ => rfl) _), trivial⟩⟩)
                  · refine w_skip ?_
                    refine hK_26108 _ _ (Option.some.inj h).symm ?_
                    cases s_26050.1 with
                    | nil =>
                      exact to_ren [] (leB rfl) (by kernel_rfl) (by kernel_rfl) (renE_of (by kernel_rfl) (by kernel_rfl)) ⟨reRn (by kernel_rfl) (leB rfl) (by kernel_rfl), trivial⟩
                    | cons y_ ys_ =>
                      exact to_ren [] (leB rfl) (by kernel_rfl) (by kernel_rfl) (renE_of (by kernel_rfl) (by kernel_rfl)) ⟨reRn (by kernel_rfl) (leB rfl) (by kernel_rfl), ⟨rePl (by kernel_rfl) (leB rfl) (flat_all _ (fun _ => rfl) _), trivial⟩⟩
                · refine w_reg ⟨[(0, I a1), (1, sl 4 cs_Debt a2), (6, growE 0 e_26106), (7, I s_25696.2), (8, I s_26050.2), (9, .ptr 1 0), (51, B (decide (x_26096.1.Num < 0)))], ((1, ⟨34, 0, (cs_Ratio x_26096.1)⟩) :: (growH 0 ⟨38, 4, flat cs_Debt e_26106⟩ e_26106 [])), 2⟩ (by kernel_rfl) (leB rfl) ?_
                  refine w_ite h (by kernel_rfl) (fun h_26114 h => ?_) (fun h_26114 h => ?_)
                  · refine w_reg0 ?_
                    refine dd_run 0 4 rfl (by kernel_rfl) ?_
                    obtain ⟨x_26115, h_26116, h⟩ := bind_some' h
                    refine dd_one 4 (.call ⟨.value (.func 32), #[(.tmp 55)], #[34]⟩) (some 56) (by kernel_rfl) (o_callP (g_estoppelref42_Minus_ok h_26116) (by kernel_rfl) rfl) ?_
                    refine dd_run 5 7 rfl (by kernel_rfl) ?_
                    obtain ⟨x_26119, h_26120, h⟩ := bind_some' h
                    refine dd_one 7 (.call ⟨.builtin .append, #[(.tmp 52), (.tmp 58)], #[22, 22]⟩) (some 59) (by kernel_rfl) (o_heap (.own 2 x_26119.length) [(2, ⟨38, 4, flat cs_Debt x_26119⟩), (1, ⟨34, 0, (cs_Ratio x_26096.1)⟩)] 3 (by kernel_rfl) (hv_append (sv := growE 0 e_26106) (xv := sl 4 cs_Debt [(D.Debt.mk s_26050.2 s_25696.2 x_26115)]) (by kernel_rfl) (by kernel_rfl) (app_new (e := 38) (k := 4) (c := cs_Debt) h_26120 (.inl (appO_pos h_26120)) (by kernel_rfl) (by kernel_rfl) (by kernel_rfl) (by kernel_rfl : zeroT _ _ = some [I 0, I 0, I 0, I 0]) (leB rfl) rfl (old_grow (k := 4) (c := cs_Debt) (A := [(1, ⟨34, 0, (cs_Ratio x_26096.1)⟩)]) (T := []) (fun _ => rfl) _ (by kernel_rfl) (by kernel_rfl) (by kernel_rfl) (by kernel_rfl)) (new_sl (k := 4) (c := cs_Debt) (fun _ => rfl) _))) rfl) ?_
                    refine dd_run 8 9 rfl (by kernel_rfl) ?_
                    refine dd_nil 9 rfl ?_
                    refine hK_26088 _ ⟨[(0, I a1), (1, sl 4 cs_Debt a2), (6, .own 2 x_26119.length), (7, I s_25696.2), (8, I s_26050.2)], [(2, ⟨38, 4, flat cs_Debt x_26119⟩), (1, ⟨34, 0, (cs_Ratio x_26096.1)⟩)], 3⟩ (to_trim (by kernel_rfl) (leB rfl)) ?_
                    refine w_reg0 ?_
                    refine dd_run 0 3 rfl (by kernel_rfl) ?_
                    refine dd_nil 3 rfl ?_
                    obtain ⟨y_, ys_, hy_⟩ := ne_cons (appO_pos h_26120); subst hy_
                    exact hK_26052 _ _ (Option.some.inj h).symm (to_ren [(0, 2)] (leB rfl) (by kernel_rfl) (by kernel_rfl) (renE_of (by kernel_rfl) (by kernel_rfl)) ⟨rePl (by kernel_rfl) (leB rfl) (flat_all _ (fun _ => rfl) _), trivial⟩)
                  · refine w_skip ?_
                    refine hK_26088 _ ⟨[(0, I a1), (1, sl 4 cs_Debt a2), (6, growE 0 e_26106), (7, I s_25696.2), (8, I s_26050.2)], ((1, ⟨34, 0, (cs_Ratio x_26096.1)⟩) :: (growH 0 ⟨38, 4, flat cs_Debt e_26106⟩ e_26106 [])), 2⟩ (to_trim (by kernel_rfl) (leB rfl)) ?_
                    refine w_reg0 ?_
                    refine dd_run 0 3 rfl (by kernel_rfl) ?_
                    refine dd_nil 3 rfl ?_
                    refine hK_26052 _ _ (Option.some.inj h).symm ?_
                    cases e_26106 with
                    | nil =>
                      exact to_ren [] (leB rfl) (by kernel_rfl) (by kernel_rfl) (renE_of (by kernel_rfl) (by kernel_rfl)) trivial
                    | cons y_ ys_ =>
                      exact to_ren [] (leB rfl) (by kernel_rfl) (by kernel_rfl) (renE_of (by kernel_rfl) (by kernel_rfl)) ⟨rePl (by kernel_rfl) (leB rfl) (flat_all _ (fun _ => rfl) _), trivial⟩
            · refine w_exit ?_
              refine hK_25911 _ ⟨[(0, I a1), (1, sl 4 cs_Debt a2), (6, growE 0 s_26050.1), (7, I s_25696.2)], (growH 0 ⟨38, 4, flat cs_Debt s_26050.1⟩ s_26050.1 []), 1⟩ (to_trim (by kernel_rfl) (leB rfl)) ?_
              refine w_reg0 ?_
              refine dd_run 0 3 rfl (by kernel_rfl) ?_
              refine dd_nil 3 rfl ?_
              refine hK_25698 _ _ (h_26051 _ (Option.some.inj h).symm).symm ?_
              cases s_26050.1 with
              | nil =>
                exact to_ren [] (leB rfl) (by kernel_rfl) (by kernel_rfl) (renE_of (by kernel_rfl) (by kernel_rfl)) trivial
              | cons y_ ys_ =>
                exact to_ren [] (leB rfl) (by kernel_rfl) (by kernel_rfl) (renE_of (by kernel_rfl) (by kernel_rfl)) ⟨rePl (by kernel_rfl) (leB rfl) (flat_all _ (fun _ => rfl) _), trivial⟩
        · refine w_exit ?_
          exact hK_24849 _ _ (h_25697 _ (Option.some.inj h).symm).symm (to_trans (to_freezeG 6 0 s_25696.1 38 [] [] (k := 4) (c := cs_Debt) (leB rfl) (by kernel_rfl) (by kernel_rfl) (by kernel_rfl) (free_nil _) (by kernel_rfl) (leB rfl) (fun _ => rfl) (fun _ => rfl) (fun _ => rfl)) (to_ren [] (leB rfl) (by kernel_rfl) (by kernel_rfl) (renE_of (by kernel_rfl) (by kernel_rfl)) trivial))
    · refine w_reg ⟨[(4, sl 4 cs_Debt e_24847), (5, I 0)], [], 0⟩ (by kernel_rfl) (leB rfl) ?_
      refine w_ret ?_
      obtain rfl := ((Option.some.inj h).symm).symm
      exact ret_leaf (.inl rfl) ⟨[(4, sl 4 cs_Debt e_24847), (5, I 0)], [], 0⟩ (to_ren [] (leB rfl) (by kernel_rfl) (by kernel_rfl) (renE_of (by kernel_rfl) (by kernel_rfl)) trivial) [sl 4 cs_Debt e_24847, I 0] (by kernel_rfl) (by kernel_rfl) (leB rfl) (by kernel_rfl) trivial
end Go.Proofs.Ytgggekjhfdkgkaa.Ab
