/- DateMonths returns true: Months does not decrease with the day, leads into the month that many months later, to the same day or the last one, and back again if the day of the month is at most 28. The law's table of days is tied to the program's text. -/
import Derived.Test.YthnjbcdfcpchnaaDoorDateMoW
import Derived.Test.YthnjbcdfcpchnaaDoorFrame
namespace Go.Proofs.YthnjbcdfcpchnaaDoor.dateMonths
open Go.ChangeShapes Go.WideShapes Go.ChangeAt Go.RowKit Go.Shelf

theorem mono_fin {y m d day later k : Int} (hv : Cal.okB y m d = true) (hn : Cal.num y m d = day) (r1 : 23880 ≤ y * 12 + m - 1 + k) (r2 : y * 12 + m - 1 + k < 26280)
    (hf : Cal.mE later k = 0) (hle : day ≤ later) : Cal.months y m d k ≤ Cal.mV later k := by
  have v : Cal.mV later k = Cal.months (Cal.dateOf later).1 (Cal.dateOf later).2.1 (Cal.dateOf later).2.2 k := by unfold Cal.mV; rw [if_pos hf]
  unfold Cal.mE at hf
  split at hf
  · cases hf
  · rename_i h1
    obtain ⟨y2, m2, d2, hv2, hn2⟩ := Cal.exists_date later (by omega) (by omega)
    have hd := Cal.dateOf_eq hv2 hn2
    rw [v]
    rw [hd] at hf ⊢
    split at hf
    · cases hf
    · rename_i h2
      show Cal.months y m d k ≤ Cal.months y2 m2 d2 k
      replace h2 : ¬ (y2 * 12 + m2 - 1 + k < 23880 ∨ 26280 ≤ y2 * 12 + m2 - 1 + k) := h2
      exact Cal.months_mono hv hv2 (by omega) r1 r2 (by omega) (by omega)

theorem walk (day later k : Int) (w : World) (ht : Table w) :
    Calls Tryd.prog 5 #[.int .i64 day, .int .i64 later, .int .i64 k] w fun e w' => e = .returned (.bool true) ∧ Below w.heap.size w w' := by
  by_cases h1 : day < 0
  · exact walk_a1 day later k _ _ rfl rfl w h1 ht
  by_cases h2 : 73048 < day
  · exact walk_a2 day later k _ _ rfl rfl w h2 ht
  by_cases h3 : k < -2400
  · exact walk_a3 day later k _ _ rfl rfl w (by omega) (by omega) h3 ht
  by_cases h4 : 2400 < k
  · exact walk_a4 day later k _ _ rfl rfl w (by omega) (by omega) h4 ht
  obtain ⟨y, m, d, hv, hn⟩ := Cal.exists_date day (by omega) (by omega)
  obtain ⟨c1, c2, c3, c4, c5, c6⟩ := Cal.ok_iff.1 hv
  have c7 := (Cal.days_step y m c3 c4).2
  by_cases r1 : y * 12 + m - 1 + k < 23880
  · exact walk_r1 day later k _ _ rfl rfl y m d hv hn c1 c2 c3 c4 c5 (by omega) (by omega) (by omega) w r1 ht
  by_cases r2 : 26280 ≤ y * 12 + m - 1 + k
  · exact walk_r2 day later k _ _ rfl rfl y m d hv hn c1 c2 c3 c4 c5 (by omega) (by omega) (by omega) w r2 ht
  obtain ⟨y', m', d', a1, a2, a3, a4, a5, a6, _⟩ := Cal.months_date hv (k := k) (by omega) (by omega)
  obtain ⟨g1, g2, g3, g4, g5, g6⟩ := Cal.ok_iff.1 a1
  have nb := Cal.num_bd a1
  have fin : Cal.mE later k = 0 → day ≤ later → Cal.months y m d k ≤ Cal.mV later k := fun hf hle => mono_fin hv hn (by omega) (by omega) hf hle
  by_cases e : d' = d
  · by_cases h28 : d ≤ 28
    · exact walk_bk day later k _ _ rfl rfl y m d hv hn c1 c2 c3 c4 c5 (by omega) (by omega) (by omega) w _ rfl (by omega) y' m' d' a1 a2 (by omega) (by omega) g1 g2 g3 g4 g5 (by omega) (by omega) fin e h28 (by omega) ((Cal.months_back hv a1 h28 a3 e).trans hn) ht
    · exact walk_no day later k _ _ rfl rfl y m d hv hn c1 c2 c3 c4 c5 (by omega) (by omega) (by omega) w _ rfl (by omega) y' m' d' a1 a2 (by omega) (by omega) g1 g2 g3 g4 g5 (by omega) (by omega) fin e (by omega) (by omega) ht
  · have h28 : 28 < d := by
      rcases Int.lt_or_le 28 d with h | h
      · exact h
      · exact absurd (a6 h) e
    by_cases hm : Cal.months y m d k = 73048
    · exact walk_mx day later k _ _ rfl rfl y m d hv hn c1 c2 c3 c4 c5 (by omega) (by omega) (by omega) w _ rfl (by omega) y' m' d' a1 a2 (by omega) (by omega) g1 g2 g3 g4 g5 (by omega) (by omega) fin (by omega) h28 hm ht
    · obtain ⟨y2, m2, d2, hv2, hn2⟩ := Cal.exists_date (Cal.months y m d k + 1) (by omega) (by omega)
      have h1 : d2 = 1 := Cal.next_first a1 hv2 (by omega) (by omega)
      subst h1
      exact walk_nx day later k _ _ rfl rfl y m d hv hn c1 c2 c3 c4 c5 (by omega) (by omega) (by omega) w _ rfl (by omega) y' m' d' a1 a2 (by omega) (by omega) g1 g2 g3 g4 g5 (by omega) (by omega) fin (by omega) h28 (by omega) y2 m2 hv2 hn2 ht

theorem own : ownKnob Tryd.prog.godebug = none := by kernel_rfl
theorem laidOut : laidOutB Tryd.prog = true := by kernel_rfl
theorem types_ok : ∀ t ∈ Tryd.f5.params.toList, Tryd.prog.readableRec t = true ∧ t < Tryd.prog.types.size := by
  rw [Tryd.params5]
  intro t ht
  simp only [List.mem_cons, List.not_mem_nil, or_false] at ht
  rcases ht with rfl | rfl | rfl
  · exact ⟨(show Tryd.prog.readableRec 3 = true by kernel_rfl), of_decide_eq_true (by kernel_rfl)⟩
  · exact ⟨(show Tryd.prog.readableRec 3 = true by kernel_rfl), of_decide_eq_true (by kernel_rfl)⟩
  · exact ⟨(show Tryd.prog.readableRec 3 = true by kernel_rfl), of_decide_eq_true (by kernel_rfl)⟩
theorem gTab : Tryd.prog.globalNamed "estoppel/date.before" = some 0 := by kernel_rfl
theorem gTabType : (Tryd.prog.globals[0]?).map (·.type) = some 52 := by kernel_rfl
theorem cellsA : Tryd.prog.cellsOf 52 = 13 := by kernel_rfl
theorem cells3 : Tryd.prog.cellsOf 3 = 1 := by kernel_rfl
theorem table {W : World} (h : laidMetH Tryd.prog Rows.dateMonthsRow.laid W) : Table W := by
  have ht : Lib.TabIs Tryd.prog W "estoppel/date.before" .i64 [0, 31, 59, 90, 120, 151, 181, 212, 243, 273, 304, 334, 365] := Lib.tabIs_of_head (rest := []) gTab gTabType Tryd.underlying52 Tryd.underlying3 cells3 cellsA h
  intro m hm
  have hc := ht.cell gTab m (by simp; omega)
  rw [hc]
  obtain rfl | rfl | rfl | rfl | rfl | rfl | rfl | rfl | rfl | rfl | rfl | rfl | rfl : m = 0 ∨ m = 1 ∨ m = 2 ∨ m = 3 ∨ m = 4 ∨ m = 5 ∨ m = 6 ∨ m = 7 ∨ m = 8 ∨ m = 9 ∨ m = 10 ∨ m = 11 ∨ m = 12 := by omega
  all_goals rfl

/-- What the walk gives, for every argument and every world that holds the table. -/
theorem contract (H : Type) (enc : TypeId × Value → H) (W : World) (base : Nat) (args : Array Value) (ds gs : List (DataW H)) (before : List MemPlace)
    (hval : ∀ (j : Nat) t v, Tryd.f5.params[j]? = some t → args[j]? = some v → Value.okWide Tryd.prog W .any base t v)
    (hW : DataW.Whole enc Tryd.prog Tryd.f5.params.toList Rows.dateMonthsSpec.vars false W args.toList ds gs before) (hL : laidMetH Tryd.prog Rows.dateMonthsRow.laid W) :
    Calls Tryd.prog 5 args W fun e W' => ∃ v, e = .returned v ∧ Rows.dateMonthsSpec.post enc Tryd.prog Tryd.f5 false true false false W args v W' := by
  have hW' := hW
  obtain ⟨p, q, hA0, hV, rfl, hfz, hnd⟩ := hW
  obtain ⟨rfl, rfl⟩ := trodVars_none hV
  have hA := hA0
  rw [Tryd.params5] at hA hval
  obtain ⟨v0, vs0, d0, ds0, p0, q0, hargs, rfl, rfl, h0, r0⟩ := trodAll_cons hA
  obtain ⟨v1, vs1, d1, ds1, p1, q1, rfl, rfl, rfl, h1, r1⟩ := trodAll_cons r0
  obtain ⟨v2, vs2, d2, ds2, p2, q2, rfl, rfl, rfl, h2, r2⟩ := trodAll_cons r1
  obtain ⟨rfl, rfl, rfl⟩ := trodAll_nil r2
  obtain rfl : args = #[v0, v1, v2] := by cases args; simp_all
  obtain ⟨x0, rfl, rfl, rfl, wx0⟩ := open_int Tryd.underlying3 (hval 0 3 v0 rfl rfl) h0
  obtain ⟨x1, rfl, rfl, rfl, wx1⟩ := open_int Tryd.underlying3 (hval 1 3 v1 rfl rfl) h1
  obtain ⟨x2, rfl, rfl, rfl, wx2⟩ := open_int Tryd.underlying3 (hval 2 3 v2 rfl rfl) h2
  simp only [List.append_nil] at hW' hA0 ⊢
  refine (walk x0 x1 x2 W (table hL)).mono fun e W' ⟨he, hb⟩ => ?_
  subst he
  exact ⟨_, rfl, law_post (args := #[.int .i64 x0, .int .i64 x1, .int .i64 x2]) laidOut hW' rfl hA0 types_ok (by rfl) Tryd.underlying4 (by rfl) (by rfl) (by rfl) hb⟩

/-- A world for the witness: the settled one, the listed variables holding what their initialisers lay. -/
noncomputable def laidWorld (os : Os) : World :=
  { World.holding Tryd.prog os ⟨#[], #[], []⟩ with heap := (World.holding Tryd.prog os ⟨#[], #[], []⟩).heap.modify 0 fun
      | .cells _ t frozen => .cells #[.int .i64 0, .int .i64 31, .int .i64 59, .int .i64 90, .int .i64 120, .int .i64 151, .int .i64 181, .int .i64 212, .int .i64 243, .int .i64 273, .int .i64 304, .int .i64 334, .int .i64 365] t frozen
      | o => o }
theorem laid_met (os : Os) : laidMet Tryd.prog Rows.dateMonthsRow.laid ((laidWorld os).forCall (fun _ _ => 0) ⟨#[], #[.int .i64 0, .int .i64 0, .int .i64 0], []⟩).memory :=
  laidMet_of_run' 8 (by kernel_rfl) (by kernel_rfl)
theorem reads (os : Os) {H : Type} (enc : TypeId × Value → H) : ∃ places, DataW.whole enc Tryd.prog ((laidWorld os).forCall (fun _ _ => 0) ⟨#[], #[.int .i64 0, .int .i64 0, .int .i64 0], []⟩).memory Tryd.f5.params.toList Rows.dateMonthsSpec.vars false #[.int .i64 0, .int .i64 0, .int .i64 0].toList 8 = some ([.lit (.int .i64 0), .lit (.int .i64 0), .lit (.int .i64 0)], [], places) :=
  ⟨[], by kernel_rfl⟩

set_option maxRecDepth 100000 in
theorem lifted (os : Os) (started : os.Started) (H : Type) (enc : TypeId × Value → H) (F : Stop.Interp) :
    ReturnsInHanded {} Tryd.checked os 5 .any ((OpenSpec.ofChange Rows.dateMonthsSpec).preRow enc Tryd.prog Tryd.f5 Rows.dateMonthsRow.domain false Rows.dateMonthsRow.laid) (((OpenSpec.ofChange Rows.dateMonthsSpec).at F).post enc Tryd.prog Tryd.f5 false true false false) := by
  obtain ⟨places, hx⟩ := reads os enc
  refine returnsInHanded_of_row (C := Tryd.checked) (s := OpenSpec.ofChange Rows.dateMonthsSpec) own started (by kernel_rfl) Tryd.func5
    (witness_row_at (enc := enc) (C := Tryd.checked) false (laidWorld os) #[.int .i64 0, .int .i64 0, .int .i64 0] rfl (by kernel_rfl) (by kernel_rfl) (by kernel_rfl)
      (OpenSpec.preRow_of_cond 8 hx (by kernel_rfl) (fun k hk => by cases hk) (by kernel_rfl) (laid_met os))) ?_
  intro W base args ds gs before hval hW _ _ _ hL _ _
  exact contract H enc W base args ds gs before hval hW hL

theorem said : Rows.DateMonthsSaid :=
  OpenClaim.holds_of_cond 5 Tryd.f5 rfl rfl rfl rfl rfl rfl rfl ⟨rfl, rfl, rfl, rfl, rfl⟩ rfl rfl rfl rfl rfl (by kernel_rfl) Tryd.func5 (by kernel_rfl)
    (of_decide_eq_true (by kernel_rfl)) (by unfold Func.isWrapper; first | (rw [if_pos (by decide +kernel)]; kernel_rfl) | (rw [if_neg (by decide +kernel)]; exact ⟨rfl, rfl⟩))
    (fun os started H enc _ F => by rw [OpenClaim.pre_eq_preRow]; exact lifted os started H enc F)

theorem plain (f : FuncId) (fn : Func) (hf : Tryd.pinned.checked.prog.funcNamed "estoppel/estoppellaw02.DateMonths" = some f) (hfn : Tryd.pinned.checked.prog.funcs[f]? = some fn) :
    false = Tryd.pinned.checked.prog.looks [] ∧ ∀ (j : Nat) t, fn.params[j]? = some t → Tryd.pinned.checked.prog.wantsStandIn t = false := by
  obtain rfl : f = 5 := Option.some.inj ((show Tryd.prog.funcNamed "estoppel/estoppellaw02.DateMonths" = some 5 by kernel_rfl).symm.trans hf) |>.symm
  obtain rfl : fn = Tryd.f5 := (Option.some.inj (Tryd.func5.symm.trans hfn)).symm
  refine ⟨by kernel_rfl, fun j t ht => ?_⟩
  rw [Tryd.params5] at ht
  have hm := Array.mem_of_getElem? ht
  simp only [List.mem_toArray, List.mem_cons, List.not_mem_nil, or_false] at hm
  rcases hm with rfl | rfl | rfl
  · exact (show Tryd.prog.wantsStandIn 3 = false by kernel_rfl)
  · exact (show Tryd.prog.wantsStandIn 3 = false by kernel_rfl)
  · exact (show Tryd.prog.wantsStandIn 3 = false by kernel_rfl)

/-- The card. -/
theorem card : Rows.DateMonthsCardSaid :=
  Claim7.holds_tied_plain_at .later [] _ _ _ _ said (fun _ h => by cases h) (by kernel_rfl) (fun _ h => by cases h) dateMonths_row_tie rfl ⟨rfl, rfl⟩ (by kernel_rfl) rfl plain (by kernel_rfl)
end Go.Proofs.YthnjbcdfcpchnaaDoor.dateMonths
