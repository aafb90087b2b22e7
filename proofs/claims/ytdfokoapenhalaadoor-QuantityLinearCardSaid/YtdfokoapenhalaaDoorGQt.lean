/- What quantity's tables and conversions compute. -/
import Derived.Test.YtdfokoapenhalaaDoorGEx
import Derived.Test.YtdfokoapenhalaaDoorDq5
namespace Go.Proofs.YtdfokoapenhalaaDoor.Ab
open Go
theorem bytes_beq (a b : ByteArray) : (a == b) = decide (a = b) := by
  obtain ⟨a⟩ := a
  obtain ⟨b⟩ := b
  have e : ((⟨a⟩ : ByteArray) == ⟨b⟩) = (a == b) := rfl
  rw [e]
  by_cases h : a = b
  · subst h; simp
  · have : ¬ (⟨a⟩ : ByteArray) = ⟨b⟩ := fun e => h (by injection e)
    simp [h, this]
theorem toList_loop (bs : ByteArray) : ∀ (k i : Nat) (r : List UInt8), i + k = bs.size → ByteArray.toList.loop bs i r = r.reverse ++ bs.data.toList.drop i
  | 0, i, r, h => by
    unfold ByteArray.toList.loop
    rw [if_neg (by omega), List.drop_eq_nil_of_le (by show bs.data.toList.length ≤ i; rw [Array.length_toList]; show bs.size ≤ i; omega), List.append_nil]
  | k + 1, i, r, h => by
    unfold ByteArray.toList.loop
    rw [if_pos (by omega), toList_loop bs k (i + 1) _ (by omega)]
    have hi : i < bs.data.toList.length := by rw [Array.length_toList]; show i < bs.size; omega
    rw [List.drop_eq_getElem_cons hi, List.reverse_cons, List.append_assoc]
    congr 1
    have hi' : i < bs.data.size := by simpa using hi
    show bs.get! i :: _ = _
    have : bs.get! i = bs.data.toList[i] := by
      show bs.data[i]! = _
      rw [getElem!_pos bs.data i hi', Array.getElem_toList]
    rw [this]; rfl
theorem toList_data (bs : ByteArray) : bs.toList = bs.data.toList := by
  unfold ByteArray.toList
  rw [toList_loop bs bs.size 0 [] (by omega)]; rfl
theorem toList_eq (a b : ByteArray) : (a.toList == b.toList) = decide (a = b) := by
  rw [toList_data, toList_data]
  by_cases h : a = b
  · subst h; simp
  · have : ¬ a.data.toList = b.data.toList := fun e => h (by
      obtain ⟨a⟩ := a; obtain ⟨b⟩ := b
      have : a = b := Array.toList_inj.1 e
      rw [this])
    rw [decide_eq_false h]
    exact beq_eq_false_iff_ne.2 this
theorem getM_put (m : List (ByteArray × Bool)) (k n : ByteArray) : getM (putM m k true) n false = (decide (n = k) || getM m n false) := by
  unfold getM
  induction m with
  | nil =>
    unfold putM findM
    rw [bytes_beq]
    by_cases h : n = k <;> simp [h, findM]
  | cons x m ih =>
    obtain ⟨a, v⟩ := x
    unfold putM
    rw [bytes_beq]
    by_cases h : k = a
    · subst h
      simp only [decide_true, if_true]
      unfold findM
      rw [bytes_beq]
      by_cases h2 : n = k <;> simp [h2]
    · simp only [h, decide_false, Bool.false_eq_true, if_false]
      unfold findM
      rw [bytes_beq]
      by_cases h2 : n = a
      · subst h2
        have : ¬ n = k := fun e => h e.symm
        simp [this]
      · simp only [h2, decide_false, Bool.false_eq_true, if_false]
        exact ih
theorem int_beq (a b : Int) : (a == b) = decide (a = b) := by by_cases h : a = b <;> simp [h]
abbrev i64U (x : D.Unit) : Prop := i64B x.Kind ∧ i64B x.Base ∧ i64B x.Factor.Num ∧ i64B x.Factor.Den
abbrev i64A (x : D.Amount) : Prop := i64B x.Unit ∧ i64B x.Value.Num ∧ i64B x.Value.Den
def okR (x : D.Ratio) : Bool := Rt.ok x.Num x.Den
def vl (x : D.Ratio) : Rat := Rt.val x.Num x.Den
def u0 : D.Unit := ⟨ByteArray.empty, 0, 0, ⟨0, 0⟩⟩
def inU (u : List D.Unit) (i : Int) : Bool := decide (0 ≤ i ∧ i < u.length)
def uAt (u : List D.Unit) (i : Int) : D.Unit := u.getD i.toNat u0
theorem getI_in {u : List D.Unit} {i : Int} (h : inU u i = true) : getI u i = some (uAt u i) := by
  have h := of_decide_eq_true h
  unfold getI uAt
  rw [if_pos h.1, List.getD_eq_getElem?_getD, List.getElem?_eq_getElem (by omega)]; rfl
theorem uAt_mem {u : List D.Unit} {i : Int} (h : inU u i = true) : uAt u i ∈ u := by
  have h := of_decide_eq_true h
  unfold uAt
  have hi : i.toNat < u.length := by omega
  rw [List.getD_eq_getElem?_getD, List.getElem?_eq_getElem hi]
  exact List.getElem_mem hi
theorem g_at (u : List D.Unit) (i : Int) : g_estoppel_quantity_table_at u i = some (if inU u i = true then (uAt u i, true) else (u0, false)) := by
  unfold g_estoppel_quantity_table_at
  by_cases h : inU u i = true
  · rw [if_pos h]
    have hh := of_decide_eq_true h
    have c1 : decide (i < 0) = false := decide_eq_false (by omega)
    have c2 : decide (i ≥ (u.length : Int)) = false := decide_eq_false (by omega)
    simp only [c1, c2, Bool.false_eq_true, if_false, bindF_l, getI_in h, Option.bind_some]
  · rw [if_neg h]
    have hh : ¬ (0 ≤ i ∧ i < u.length) := fun e => h (decide_eq_true e)
    by_cases h0 : i < 0
    · simp only [h0, decide_true, if_true, bindF_l]; rfl
    · have c2 : decide (i ≥ (u.length : Int)) = true := decide_eq_true (by omega)
      simp only [h0, decide_false, Bool.false_eq_true, if_false, bindF_l, c2, if_true]; rfl
/-- Unit i of a table is as it should be. -/
def unitOK (u : List D.Unit) (i : Nat) : Bool :=
  let x := uAt u i
  inU u x.Base && decide (i < 20) && decide (x.Name ≠ ByteArray.empty) && !((u.take i).any fun y => decide (x.Name = y.Name)) && okR x.Factor && decide (0 < x.Factor.Num)
    && (decide (x.Base ≠ i) || decide (x.Factor = ⟨1, 1⟩)) && decide (x.Kind = 1 ∨ x.Kind = 2) && decide ((uAt u x.Base).Kind = x.Kind) && decide ((uAt u x.Base).Base = x.Base)
theorem g_fits (u : List D.Unit) (hu : ∀ x ∈ u, i64U x) (i : Nat) (hi : i < u.length) (m : List (ByteArray × Bool)) (hm : ∀ n, getM m n false = (u.take i).any fun y => decide (n = y.Name)) :
    g_estoppel_quantity_table_fits_o u i m = some (unitOK u i) := by
  have hin : inU u (i : Nat) = true := decide_eq_true (by omega)
  have hx := hu _ (uAt_mem hin)
  unfold g_estoppel_quantity_table_fits_o unitOK
  rw [getI_in hin, Option.bind_some]
  simp only [g_at]
  generalize uAt u (i : Nat) = x at *
  obtain ⟨x1, x2, x3, x4⟩ := hx
  rw [Option.bind_some]
  by_cases hb : inU u x.Base = true
  · rw [if_pos hb]
    simp only [hb, Bool.not_true, Bool.false_eq_true, if_false, Bool.true_and]
    by_cases h1 : i < 20
    · have c1 : decide ((i : Int) ≥ 20) = false := decide_eq_false (by omega)
      simp only [c1, Bool.false_eq_true, if_false, h1, decide_true, Bool.true_and]
      rw [toList_eq]
      have e0 : (ByteArray.mk #[]) = ByteArray.empty := rfl
      rw [e0]
      by_cases h2 : x.Name = ByteArray.empty
      · simp [h2]
      · simp only [h2, decide_false, Bool.false_eq_true, if_false, ne_eq, not_false_eq_true, decide_true, Bool.true_and, hm]
        cases h3 : (u.take i).any fun y => decide (x.Name = y.Name)
        · simp only [Bool.false_eq_true, if_false, Bool.not_false, Bool.true_and]
          rw [g_Valid x.Factor x3 x4, Option.bind_some]
          unfold okR
          cases h4 : Rt.ok x.Factor.Num x.Factor.Den
          · simp
          · by_cases h5 : 0 < x.Factor.Num
            · have c5 : decide (x.Factor.Num ≤ 0) = false := decide_eq_false (by omega)
              simp only [Bool.not_true, Bool.false_eq_true, if_false, c5, bindF_l, h5, decide_true, Bool.true_and]
              simp only [int_beq, decide_not, Bool.decide_or]
              generalize decide (x.Base = (i : Int)) = b1
              generalize decide (x.Factor = ⟨1, 1⟩) = b2
              generalize decide (x.Kind = 1) = b3
              generalize decide (x.Kind = 2) = b4
              generalize decide ((uAt u x.Base).Kind = x.Kind) = b5
              generalize decide ((uAt u x.Base).Base = x.Base) = b6
              cases b1 <;> cases b2 <;> cases b3 <;> cases b4 <;> cases b5 <;> rfl
            · have c5 : decide (x.Factor.Num ≤ 0) = true := decide_eq_true (by omega)
              simp [c5, h5]
        · simp
    · have c1 : decide ((i : Int) ≥ 20) = true := decide_eq_true (by omega)
      simp [c1, h1]
  · rw [if_neg hb]
    simp [hb]
/-- What Valid returns of a table. -/
def vt (u : List D.Unit) : Int × Bool := match (List.range u.length).find? (fun i => !unitOK u i) with
  | some i => ((i : Int), false)
  | none => (-1, true)
theorem find_first {n : Nat} {p : Nat → Bool} {i : Nat} (hi : i < n) (hp : p i = true) (hb : ∀ k, k < i → p k = false) : (List.range n).find? p = some i := by
  rw [List.find?_range_eq_some]
  exact ⟨hp, List.mem_range.2 hi, fun k hk => by simp [hb k hk]⟩
theorem find_none {n : Nat} {p : Nat → Bool} (hb : ∀ k, k < n → p k = false) : (List.range n).find? p = none := by
  rw [List.find?_range_eq_none]
  exact fun k hk => by simp [hb k hk]
theorem g_VT (u : List D.Unit) (hu : ∀ x ∈ u, i64U x) (hl : u.length ≤ 1000000) : g_quantity_Valid u = some (vt u) := by
  unfold g_quantity_Valid
  obtain ⟨r, hr, hq⟩ := range_rule (ρ := Unit ⊕ (Int × Bool)) (body := fun (s : List (ByteArray × Bool) × Int) =>
    if (decide (s.2 < (u.length : Int))) = true then
    (getI u s.2).bind fun x1 =>
    (g_estoppel_quantity_table_fits_o u s.2 s.1).bind fun x2 =>
    if (!x2) = true then
    some (.inr (.inr (s.2, false)))
    else
    some (.inl ((putM s.1 x1.Name true), (IntKind.i64.wrap (s.2 + 1))))
    else
    some (.inr (.inl ()))) (fun s => s.2) u.length
    (fun i s => (∀ n, getM s.1 n false = (u.take i).any fun y => decide (n = y.Name)) ∧ ∀ k, k < i → unitOK u k = true)
    (fun r => (r = .inl () ∧ vt u = (-1, true)) ∨ r = .inr (vt u))
    (fun i s hi hs ⟨hm, hJ⟩ => by
      obtain ⟨m, n⟩ := s
      simp only at hs hm
      subst hs
      have hin : inU u (i : Nat) = true := decide_eq_true (by omega)
      have c1 : decide ((i : Int) < (u.length : Int)) = true := decide_eq_true (by omega)
      simp only [c1, if_true, getI_in hin, Option.bind_some, g_fits u hu i hi m hm]
      cases h : unitOK u i
      · right
        refine ⟨.inr (vt u), ?_, .inr rfl⟩
        unfold vt
        rw [find_first hi (by simp [h]) (fun k hk => by simp [hJ k hk])]
        rfl
      · left
        refine ⟨(putM m (uAt u (i : Nat)).Name true, ((i + 1 : Nat) : Int)), ?_, rfl, fun n => ?_, fun k hk => ?_⟩
        · simp only [Bool.not_true, Bool.false_eq_true, if_false]; rw [inc _ (by omega)]
        · rw [getM_put, hm]
          have e : u.take (i + 1) = u.take i ++ [uAt u (i : Nat)] := by
            rw [List.take_add_one, List.getElem?_eq_getElem hi]
            unfold uAt
            rw [Int.toNat_natCast, List.getD_eq_getElem?_getD, List.getElem?_eq_getElem hi]; rfl
          rw [e, List.any_append, Bool.or_comm]
          simp
        · by_cases e : k = i
          · rw [e]; exact h
          · exact hJ k (by omega))
    (fun s hs ⟨_, hJ⟩ => by
      obtain ⟨m, n⟩ := s
      simp only at hs
      subst hs
      refine ⟨.inl (), by simp, .inl ⟨rfl, ?_⟩⟩
      unfold vt
      rw [find_none (fun k hk => by simp [hJ k hk])])
    (s := (([] : List (ByteArray × Bool)), 0)) (i := 0) rfl ⟨fun n => rfl, fun k hk => by omega⟩ (by omega) (by omega)
  rw [hr]
  rcases hq with ⟨rfl, h⟩ | rfl
  · rw [bindF_l, h]
  · rw [bindF_r]
theorem vt_ok {u : List D.Unit} (h : (vt u).2 = true) {i : Nat} (hi : i < u.length) : unitOK u i = true := by
  unfold vt at h
  split at h
  · cases h
  · rename_i hn
    have := List.find?_range_eq_none.1 hn i hi
    simpa using this
structure UnitF (u : List D.Unit) (x : D.Unit) : Prop where
  ok : Rt.ok x.Factor.Num x.Factor.Den = true
  pos : 0 < x.Factor.Num
  base : inU u x.Base = true
  base2 : (uAt u x.Base).Base = x.Base
theorem vt_unit {u : List D.Unit} (h : (vt u).2 = true) {i : Int} (hi : inU u i = true) : UnitF u (uAt u i) := by
  have hh := of_decide_eq_true hi
  have := vt_ok h (i := i.toNat) (by omega)
  unfold unitOK at this
  simp only [Bool.and_eq_true, decide_eq_true_eq, show ((i.toNat : Nat) : Int) = i by omega] at this
  exact ⟨this.1.1.1.1.1.2, this.1.1.1.1.2, this.1.1.1.1.1.1.1.1.1, this.2⟩
/-- The value in the other unit. -/
def cq (u : List D.Unit) (t : Int) (a : D.Amount) : Rat := vl a.Value * vl (uAt u a.Unit).Factor / vl (uAt u t).Factor
def hasA (u : List D.Unit) (a : D.Amount) : Bool := inU u a.Unit && okR a.Value
def zA : D.Amount := ⟨0, ⟨0, 0⟩⟩
def amt (t : Int) (q : Rat) : D.Amount := ⟨t, ofQ q⟩
theorem g_has (u : List D.Unit) (a : D.Amount) (ha : i64A a) : g_estoppel_quantity_table_has u a = some (hasA u a) := by
  unfold g_estoppel_quantity_table_has hasA
  rw [g_at, Option.bind_some]
  cases h : inU u a.Unit
  · simp
  · simp only [if_true]
    rw [g_Valid a.Value ha.2.1 ha.2.2]; rfl
theorem g_value (u : List D.Unit) (a : D.Amount) (t : Int) (hv : (vt u).2 = true) (ha : hasA u a = true) (ht : inU u t = true) :
    g_estoppel_quantity_table_value u a t = some (asR (Rt.fit (cq u t a))) := by
  unfold hasA at ha
  rw [Bool.and_eq_true] at ha
  unfold g_estoppel_quantity_table_value
  have f1 := vt_unit hv ha.1
  have f2 := vt_unit hv ht
  rw [getI_in ha.1, Option.bind_some, getI_in ht, Option.bind_some, g_exact _ _ _ ha.2 f1.ok f2.ok f1.pos f2.pos]
  rfl
/-- What Convert returns. -/
def cv (u : List D.Unit) (a : D.Amount) (t : Int) : D.Amount × Int :=
  if ((vt u).2 && inU u t && hasA u a) = true then
    if (uAt u a.Unit).Base = (uAt u t).Base then (if Rt.fits (cq u t a) = true then (amt t (cq u t a), 0) else (zA, 2)) else (zA, 11)
  else (zA, 1)
theorem g_Convert (u : List D.Unit) (a : D.Amount) (t : Int) (hu : ∀ x ∈ u, i64U x) (hl : u.length ≤ 1000000) (ha : i64A a) : g_quantity_Convert u a t = some (cv u a t) := by
  unfold g_quantity_Convert cv
  rw [g_VT u hu hl, g_at]
  simp only [Option.bind_some]
  cases h1 : (vt u).2
  · simp; rfl
  cases h2 : inU u t
  · simp; rfl
  simp only [Bool.not_true, Bool.false_eq_true, if_false, if_true, Bool.true_and, g_has u a ha, Option.bind_some, bindF_l]
  cases h3 : hasA u a
  · simp; rfl
  simp only [Bool.not_true, Bool.false_eq_true, if_false, if_true]
  have h4 : inU u a.Unit = true := by unfold hasA at h3; rw [Bool.and_eq_true] at h3; exact h3.1
  rw [getI_in h4, Option.bind_some]
  by_cases h5 : (uAt u a.Unit).Base = (uAt u t).Base
  · have c : ((uAt u a.Unit).Base != (uAt u t).Base) = false := by simp [h5]
    rw [c, if_pos h5]
    simp only [Bool.false_eq_true, if_false, g_value u a t h1 h3 h2, Option.bind_some, asR_fit]
    cases h6 : Rt.fits (cq u t a) <;> rfl
  · have c : ((uAt u a.Unit).Base != (uAt u t).Base) = true := by simp [h5]
    simp only [c, if_true, h5, if_false]; rfl
end Go.Proofs.YtdfokoapenhalaaDoor.Ab
