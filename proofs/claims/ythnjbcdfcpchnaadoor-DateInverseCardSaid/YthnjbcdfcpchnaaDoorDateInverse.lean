/- DateInverse returns true: for every date and day, the number of the date of a day is the day, the date of the number of a date is the date, and the next day number is the next date and weekday. The law's table of days is tied to the program's text. -/
import Derived.Test.YthnjbcdfcpchnaaDoorDateInvA
import Derived.Test.YthnjbcdfcpchnaaDoorDateInvB
import Derived.Test.YthnjbcdfcpchnaaDoorFrame
import Derived.Lib.SmallJoins
namespace Go.Proofs.YthnjbcdfcpchnaaDoor.dateInverse
open Go.ChangeShapes Go.WideShapes Go.ChangeAt Go.RowKit Go.Shelf Go.Joins

theorem walk (y0 m0 d0 day : Int) (w : World) (wd : -9223372036854775808 ≤ d0 ∧ d0 ≤ 9223372036854775807) (ht : Table w) :
    Calls Tryd.prog 3 #[.agg #[.int .i64 y0, .int .i64 m0, .int .i64 d0], .int .i64 day] w fun e w' => e = .returned (.bool true) ∧ Below w.heap.size w w' := by
  cases hk : Cal.okB y0 m0 d0
  ·
    by_cases hlo : day < 0
    · exact walk_no_lo y0 m0 d0 hk wd day w hlo ht
    by_cases hhi : 73048 < day
    · exact walk_no_hi y0 m0 d0 hk wd day w hhi ht
    by_cases hmax : day = 73048
    · subst hmax; exact walk_no_max y0 m0 d0 hk wd w (Lib.hid (by decide)) (Lib.hid (by decide)) ht
    obtain ⟨y, m, d, hv, hn⟩ := Cal.exists_date day (by omega) (by omega)
    obtain ⟨y', m', d', hv', hn'⟩ := Cal.exists_date (day + 1) (by omega) (by omega)
    obtain ⟨c1, c2, c3, c4, c5, c6⟩ := Cal.ok_iff.1 hv
    have c7 := (Cal.days_step y m c3 c4).2
    rcases Cal.next_date hv hv' (by omega) with ⟨rfl, rfl, rfl⟩ | ⟨rfl, rfl, rfl, h28⟩ | ⟨rfl, rfl, rfl, rfl, rfl⟩
    · exact walk_no_same y0 m0 d0 hk wd y' m' d day w hv hn (by omega) (by omega) c1 c2 c3 c4 c5 (by omega) hv' hn' ht
    · exact walk_no_month y0 m0 d0 hk wd y' m d day w hv hn (by omega) (by omega) c1 c2 c3 c4 c5 (by omega) h28 hv' hn' ht
    · exact walk_no_year y0 m0 d0 hk wd y day w hv hn (by omega) (by omega) c1 c2 hv' hn' ht
  · have nb := Cal.num_bd hk
    by_cases hlo : day < 0
    · exact walk_ok_lo y0 m0 d0 _ hk rfl nb.1 nb.2 day w hlo ht
    by_cases hhi : 73048 < day
    · exact walk_ok_hi y0 m0 d0 _ hk rfl nb.1 nb.2 day w hhi ht
    by_cases hmax : day = 73048
    · subst hmax; exact walk_ok_max y0 m0 d0 _ hk rfl nb.1 nb.2 w (Lib.hid (by decide)) (Lib.hid (by decide)) ht
    obtain ⟨y, m, d, hv, hn⟩ := Cal.exists_date day (by omega) (by omega)
    obtain ⟨y', m', d', hv', hn'⟩ := Cal.exists_date (day + 1) (by omega) (by omega)
    obtain ⟨c1, c2, c3, c4, c5, c6⟩ := Cal.ok_iff.1 hv
    have c7 := (Cal.days_step y m c3 c4).2
    rcases Cal.next_date hv hv' (by omega) with ⟨rfl, rfl, rfl⟩ | ⟨rfl, rfl, rfl, h28⟩ | ⟨rfl, rfl, rfl, rfl, rfl⟩
    · exact walk_ok_same y0 m0 d0 _ hk rfl nb.1 nb.2 y' m' d day w hv hn (by omega) (by omega) c1 c2 c3 c4 c5 (by omega) hv' hn' ht
    · exact walk_ok_month y0 m0 d0 _ hk rfl nb.1 nb.2 y' m d day w hv hn (by omega) (by omega) c1 c2 c3 c4 c5 (by omega) h28 hv' hn' ht
    · exact walk_ok_year y0 m0 d0 _ hk rfl nb.1 nb.2 y day w hv hn (by omega) (by omega) c1 c2 hv' hn' ht

theorem own : ownKnob Tryd.prog.godebug = none := by kernel_rfl
theorem laidOut : laidOutB Tryd.prog = true := by kernel_rfl
theorem types_ok : ∀ t ∈ Tryd.f3.params.toList, Tryd.prog.readableRec t = true ∧ t < Tryd.prog.types.size := by
  rw [Tryd.params3]
  intro t ht
  simp only [List.mem_cons, List.not_mem_nil, or_false] at ht
  rcases ht with rfl | rfl
  · exact ⟨(show Tryd.prog.readableRec 23 = true by kernel_rfl), of_decide_eq_true (by kernel_rfl)⟩
  · exact ⟨(show Tryd.prog.readableRec 3 = true by kernel_rfl), of_decide_eq_true (by kernel_rfl)⟩
theorem gTab : Tryd.prog.globalNamed "estoppel/date.before" = some 0 := by kernel_rfl
theorem gTabType : (Tryd.prog.globals[0]?).map (·.type) = some 52 := by kernel_rfl
theorem cellsA : Tryd.prog.cellsOf 52 = 13 := by kernel_rfl
theorem cells3 : Tryd.prog.cellsOf 3 = 1 := by kernel_rfl
theorem table {W : World} (h : laidMetH Tryd.prog Rows.dateInverseRow.laid W) : Table W := by
  have ht : Lib.TabIs Tryd.prog W "estoppel/date.before" .i64 [0, 31, 59, 90, 120, 151, 181, 212, 243, 273, 304, 334, 365] := Lib.tabIs_of_head (rest := []) gTab gTabType Tryd.underlying52 Tryd.underlying3 cells3 cellsA h
  intro m hm
  have hc := ht.cell gTab m (by simp; omega)
  rw [hc]
  obtain rfl | rfl | rfl | rfl | rfl | rfl | rfl | rfl | rfl | rfl | rfl | rfl | rfl : m = 0 ∨ m = 1 ∨ m = 2 ∨ m = 3 ∨ m = 4 ∨ m = 5 ∨ m = 6 ∨ m = 7 ∨ m = 8 ∨ m = 9 ∨ m = 10 ∨ m = 11 ∨ m = 12 := by omega
  all_goals rfl

/-- What the walk gives, for every argument and every world that holds the table. -/
theorem contract (H : Type) (enc : TypeId × Value → H) (W : World) (base : Nat) (args : Array Value) (ds gs : List (DataW H)) (before : List MemPlace)
    (hval : ∀ (j : Nat) t v, Tryd.f3.params[j]? = some t → args[j]? = some v → Value.okWide Tryd.prog W .any base t v)
    (hW : DataW.Whole enc Tryd.prog Tryd.f3.params.toList Rows.dateInverseSpec.vars false W args.toList ds gs before) (hL : laidMetH Tryd.prog Rows.dateInverseRow.laid W) :
    Calls Tryd.prog 3 args W fun e W' => ∃ v, e = .returned v ∧ Rows.dateInverseSpec.post enc Tryd.prog Tryd.f3 false true false false W args v W' := by
  have hW' := hW
  obtain ⟨p, q, hA0, hV, rfl, hfz, hnd⟩ := hW
  obtain ⟨rfl, rfl⟩ := trodVars_none hV
  have hA := hA0
  rw [Tryd.params3] at hA hval
  obtain ⟨v0, vs0, d0, ds0, p0, q0, hargs, rfl, rfl, h0, r0⟩ := trodAll_cons hA
  obtain ⟨v1, vs1, d1, ds1, p1, q1, rfl, rfl, rfl, h1, r1⟩ := trodAll_cons r0
  obtain ⟨rfl, rfl, rfl⟩ := trodAll_nil r1
  obtain rfl : args = #[v0, v1] := by cases args; simp_all
  obtain ⟨c0, c1, c2, y0, y1, y2, m, rfl, rfl, rfl, hy0, hy1, hy2⟩ := open_agg3 Tryd.underlying23 (by kernel_rfl) (by kernel_rfl) (hval 0 23 v0 rfl rfl) h0
  obtain ⟨a0, e0, rfl, wa0⟩ := DataW.trod_int Tryd.underlying3 hy0
  obtain ⟨a1, e1, rfl, wa1⟩ := DataW.trod_int Tryd.underlying3 hy1
  obtain ⟨a2, e2, rfl, wa2⟩ := DataW.trod_int Tryd.underlying3 hy2
  simp at e0 e1 e2
  subst e0 e1 e2
  obtain ⟨x1, rfl, rfl, rfl, wx1⟩ := open_int Tryd.underlying3 (hval 1 3 v1 rfl rfl) h1
  simp only [List.append_nil] at hW' hA0 ⊢
  refine (walk a0 a1 a2 x1 W (bounds_i64 wa2) (table hL)).mono fun e W' ⟨he, hb⟩ => ?_
  subst he
  exact ⟨_, rfl, law_post (args := #[.agg #[.int .i64 a0, .int .i64 a1, .int .i64 a2], .int .i64 x1]) laidOut hW' rfl hA0 types_ok (by rfl) Tryd.underlying4 (by rfl) (by rfl) (by rfl) hb⟩

/-- A world for the witness: the settled one, the listed variables holding what their initialisers lay. -/
noncomputable def laidWorld (os : Os) : World :=
  { World.holding Tryd.prog os ⟨#[], #[], []⟩ with heap := (World.holding Tryd.prog os ⟨#[], #[], []⟩).heap.modify 0 fun
      | .cells _ t frozen => .cells #[.int .i64 0, .int .i64 31, .int .i64 59, .int .i64 90, .int .i64 120, .int .i64 151, .int .i64 181, .int .i64 212, .int .i64 243, .int .i64 273, .int .i64 304, .int .i64 334, .int .i64 365] t frozen
      | o => o }
theorem laid_met (os : Os) : laidMet Tryd.prog Rows.dateInverseRow.laid ((laidWorld os).forCall (fun _ _ => 0) ⟨#[], #[.agg #[.int .i64 0, .int .i64 0, .int .i64 0], .int .i64 0], []⟩).memory :=
  laidMet_of_run' 8 (by kernel_rfl) (by kernel_rfl)
theorem reads (os : Os) {H : Type} (enc : TypeId × Value → H) : ∃ places, DataW.whole enc Tryd.prog ((laidWorld os).forCall (fun _ _ => 0) ⟨#[], #[.agg #[.int .i64 0, .int .i64 0, .int .i64 0], .int .i64 0], []⟩).memory Tryd.f3.params.toList Rows.dateInverseSpec.vars false #[.agg #[.int .i64 0, .int .i64 0, .int .i64 0], .int .i64 0].toList 8 = some ([.agg [.lit (.int .i64 0), .lit (.int .i64 0), .lit (.int .i64 0)], .lit (.int .i64 0)], [], places) :=
  ⟨[], by kernel_rfl⟩

set_option maxRecDepth 100000 in
theorem lifted (os : Os) (started : os.Started) (H : Type) (enc : TypeId × Value → H) (F : Stop.Interp) :
    ReturnsInHanded {} Tryd.checked os 3 .any ((OpenSpec.ofChange Rows.dateInverseSpec).preRow enc Tryd.prog Tryd.f3 Rows.dateInverseRow.domain false Rows.dateInverseRow.laid) (((OpenSpec.ofChange Rows.dateInverseSpec).at F).post enc Tryd.prog Tryd.f3 false true false false) := by
  obtain ⟨places, hx⟩ := reads os enc
  refine returnsInHanded_of_row (C := Tryd.checked) (s := OpenSpec.ofChange Rows.dateInverseSpec) own started (by kernel_rfl) Tryd.func3
    (witness_row_at (enc := enc) (C := Tryd.checked) false (laidWorld os) #[.agg #[.int .i64 0, .int .i64 0, .int .i64 0], .int .i64 0] rfl (by kernel_rfl) (by kernel_rfl) (by kernel_rfl)
      (OpenSpec.preRow_of_cond 8 hx (by kernel_rfl) (fun k hk => by cases hk) (by kernel_rfl) (laid_met os))) ?_
  intro W base args ds gs before hval hW _ _ _ hL _ _
  exact contract H enc W base args ds gs before hval hW hL

theorem said : Rows.DateInverseSaid :=
  OpenClaim.holds_of_cond 3 Tryd.f3 rfl rfl rfl rfl rfl rfl rfl ⟨rfl, rfl, rfl, rfl, rfl⟩ rfl rfl rfl rfl rfl (by kernel_rfl) Tryd.func3 (by kernel_rfl)
    (of_decide_eq_true (by kernel_rfl)) (by unfold Func.isWrapper; first | (rw [if_pos (by decide +kernel)]; kernel_rfl) | (rw [if_neg (by decide +kernel)]; exact ⟨rfl, rfl⟩))
    (fun os started H enc _ F => by rw [OpenClaim.pre_eq_preRow]; exact lifted os started H enc F)

theorem plain (f : FuncId) (fn : Func) (hf : Tryd.pinned.checked.prog.funcNamed "estoppel/estoppellaw02.DateInverse" = some f) (hfn : Tryd.pinned.checked.prog.funcs[f]? = some fn) :
    false = Tryd.pinned.checked.prog.looks [] ∧ ∀ (j : Nat) t, fn.params[j]? = some t → Tryd.pinned.checked.prog.wantsStandIn t = false := by
  obtain rfl : f = 3 := Option.some.inj ((show Tryd.prog.funcNamed "estoppel/estoppellaw02.DateInverse" = some 3 by kernel_rfl).symm.trans hf) |>.symm
  obtain rfl : fn = Tryd.f3 := (Option.some.inj (Tryd.func3.symm.trans hfn)).symm
  refine ⟨by kernel_rfl, fun j t ht => ?_⟩
  rw [Tryd.params3] at ht
  have hm := Array.mem_of_getElem? ht
  simp only [List.mem_toArray, List.mem_cons, List.not_mem_nil, or_false] at hm
  rcases hm with rfl | rfl
  · exact (show Tryd.prog.wantsStandIn 23 = false by kernel_rfl)
  · exact (show Tryd.prog.wantsStandIn 3 = false by kernel_rfl)

/-- The card. -/
theorem card : Rows.DateInverseCardSaid :=
  Claim7.holds_tied_plain_at .later [] _ _ _ _ said (fun _ h => by cases h) (by kernel_rfl) (fun _ h => by cases h) dateInverse_row_tie rfl ⟨rfl, rfl⟩ (by kernel_rfl) rfl plain (by kernel_rfl)
end Go.Proofs.YthnjbcdfcpchnaaDoor.dateInverse
