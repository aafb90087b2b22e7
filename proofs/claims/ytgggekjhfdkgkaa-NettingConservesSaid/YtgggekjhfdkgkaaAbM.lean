/- Abstract runs: operations of a drawn region that may come late . -/
import Derived.Test.YtgggekjhfdkgkaaAbK
namespace Go.Proofs.Ytgggekjhfdkgkaa.Ab
open Go Go.RowKit Go.Shelf
section
variable {P : Program} {n : Nat} {F : Fr}
theorem heap_congr {ρ ρ' : Operand → Option AV} {hp : List (Nat × Blk)} {nx : Nat} (op : Op) (h : ∀ o ∈ op.operands.toList, ρ' o = ρ o) : aHeap P ρ' hp nx op = aHeap P ρ hp nx op := by
  cases op with
  | call c =>
    cases hc : c.callee with
    | builtin b =>
      have h' : ∀ o ∈ c.args.toList, ρ' o = ρ o := fun o ho => h o (by simp only [Op.operands, Call.operands, Array.toList_append, List.mem_append]; exact .inr ho)
      simp only [aHeap, hc]
      generalize c.args.toList = l at *
      cases b <;> first | rfl | skip
      match l with
      | [] => rfl
      | [_] => rfl
      | [s, x] =>
        generalize c.argTypes.toList = ts
        match ts with
        | [] => rfl
        | [_] => rfl
        | [t, t'] => simp only [h' s (by simp), h' x (by simp)]
        | _ :: _ :: _ :: _ => rfl
      | _ :: _ :: _ :: _ => rfl
    | _ => simp only [aHeap, hc]
  | _ =>
    simp only [Op.operands, List.mem_cons, List.not_mem_nil, or_false, forall_eq_or_imp, forall_eq, false_implies, implies_true] at h
    simp only [aHeap, h]
theorem aOp_congr {o : Oper} {K K' : St → Prop} {st st' : St} (h : ∀ o' ∈ o.op.operands.toList, aEv st'.E o' = aEv st.E o') (hh : st'.hp = st.hp) (hx : st'.nx = st.nx)
    (hK : ∀ x hp nx, K ((St.mk st.env hp nx).put o.dst x) → K' ((St.mk st'.env hp nx).put o.dst x)) (ha : aOp P n o K K st) : aOp P n o K' K' st' := by
  unfold aOp at ha ⊢
  rw [hh, hx, pure_congr o.op h, heap_congr o.op h]
  cases hp : aPure P (aEv st.E) st.hp o.op with
  | some x =>
    rw [hp] at ha
    refine ⟨ha.1, ?_⟩
    have := hK x st.hp st.nx ha.2
    rw [← hh, ← hx] at this
    exact this
  | none =>
    rw [hp] at ha
    simp only at ha ⊢
    cases hq : aHeap P (aEv st.E) st.hp st.nx o.op with
    | some y =>
      rw [hq] at ha
      exact ⟨ha.1, hK _ _ _ ha.2⟩
    | none =>
      rw [hq] at ha
      simp only at ha ⊢
      have hput : ∀ x, K (st.put o.dst x) → K' (st'.put o.dst x) := fun x hx' => by
        have := hK x st.hp st.nx hx'
        rw [← hh, ← hx] at this; exact this
      cases e : o.op with
      | binOp op t x y g =>
        rw [e] at h ha
        simp only at ha ⊢
        rw [h x (by simp [Op.operands]), h y (by simp [Op.operands])]
        split at ha
        · obtain ⟨b, h1, h2, h3⟩ := ha
          exact ⟨b, h1, h2, hput _ h3⟩
        · exact ha.elim
      | call c =>
        rw [e] at h ha
        simp only at ha ⊢
        cases hc : c.callee with
        | value f =>
          rw [hc] at ha
          simp only at ha ⊢
          have hf : aEv st'.E f = aEv st.E f := h f (by simp [Op.operands, Call.operands, hc])
          have hargs := args_congr (ρ := aEv st.E) (ρ' := aEv st'.E) c.args.toList (fun o ho => h o (by simp only [Op.operands, Call.operands, Array.toList_append, List.mem_append]; exact .inr ho))
          rw [hf, hargs]
          split at ha
          · obtain ⟨args', hp1, r, hp1', nx', h1, h2, h3, h4, h5, h6⟩ := ha
            exact ⟨args', hp1, r, hp1', nx', h1, h2, h3, h4, h5, hK _ _ _ h6⟩
          · exact ha.elim
        | _ => rw [hc] at ha; exact ha.elim
      | _ => rw [e] at ha; exact ha.elim
theorem aVal_slot {ρ : Operand → Option AV} {hp hp' : List (Nat × Blk)} {op : Op} (h : slotOp op = true) : aPure P ρ hp op = aPure P ρ hp' op := by
  cases op <;> first | rfl | (simp [slotOp] at h)
theorem get_filter {α : Type} (p : Nat → Bool) (t : Nat) : ∀ l : List (Nat × α), get t (l.filter fun x => p x.1) = if p t = true then get t l else none
  | [] => by simp [get]
  | (k, v) :: l => by
    have ih := get_filter p t l
    rw [List.filter_cons]
    by_cases hk : p k = true
    · rw [if_pos hk]
      show (if t = k then some v else get t (l.filter fun x => p x.1)) = _
      by_cases e : t = k
      · subst e; rw [if_pos rfl, if_pos hk]; show _ = (if t = t then some v else _); rw [if_pos rfl]
      · rw [if_neg e, ih]; show _ = if p t = true then (if t = k then some v else get t l) else none; rw [if_neg e]
    · rw [if_neg hk, ih]
      by_cases e : t = k
      · subst e; rw [if_neg hk, if_neg hk]
      · show _ = if p t = true then (if t = k then some v else get t l) else none; rw [if_neg e]
/-- The targets of the head's operations that are not carried out yet. -/
def open_ (ops : Array Oper) (k : Nat) (listed : Array Bool) (t : Nat) : Bool := (List.range k).any fun j => !listed.getD j false && ((ops[j]?).bind (·.dst)) == some t
/-- The state without those. -/
def less (ops : Array Oper) (k : Nat) (listed : Array Bool) (st : St) : St := ⟨st.env.filter fun x => !open_ ops k listed x.1, st.hp, st.nx⟩
theorem less_E (ops : Array Oper) (k : Nat) (listed : Array Bool) (st : St) (t : Nat) : (less ops k listed st).E t = if open_ ops k listed t = true then none else st.E t := by
  show get t (st.env.filter fun x => !open_ ops k listed x.1) = _
  rw [get_filter (fun t => !open_ ops k listed t)]
  cases open_ ops k listed t <;> rfl
end
end Go.Proofs.Ytgggekjhfdkgkaa.Ab
