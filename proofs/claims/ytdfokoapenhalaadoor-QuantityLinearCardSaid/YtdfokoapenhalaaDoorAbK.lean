/- Merged texts: AbK AbM AbM2 AbM3 AbM4 AbM5 AbJ AbL. -/
import Derived.Test.YtdfokoapenhalaaDoorAbA
import Derived.Orders
section
namespace Go.Proofs.YtdfokoapenhalaaDoor.Ab
open Go Go.RowKit Go.Shelf

def StepV (P : Program) (n : Nat) (ops : Array Oper) (hp : List (Nat × Blk)) (nx : Nat) (E : Nat → Option AV) (o : Oper) (x : AV) : Prop :=
  dstOk n o.dst ∧ match o.guard with
    | none => EvalsTo P (aEv E) hp nx o x
    | some (j, want) => ∃ b, yv (((ops[j]?).bind (·.dst)).bind E) = some b ∧ (b = some want → EvalsTo P (aEv E) hp nx o x) ∧ (b ≠ some want → x = .s undef)
def HeadV (P : Program) (n : Nat) (ops : Array Oper) (hp : List (Nat × Blk)) (nx : Nat) : (Nat → Option AV) → List Oper → List AV → Prop
  | _, [], [] => True
  | E, o :: l, x :: xs => StepV P n ops hp nx E o x ∧ HeadV P n ops hp nx (updE E o.dst x) l xs
  | _, _, _ => False
section
variable {P : Program} {n : Nat} {ops : Array Oper} {hp : List (Nat × Blk)} {nx : Nat} {F : Fr}
theorem put_E (st : St) (d : Option Tmp) (x : AV) : (st.put d x).E = updE st.E d x := by
  funext t
  cases d with
  | none => show st.E t = if none = some t then _ else _; rw [if_neg (by simp)]
  | some d =>
    show (if t = d then some x else get t st.env) = if some d = some t then some x else st.E t
    by_cases h : t = d
    · subst h; simp
    · rw [if_neg h, if_neg (by simp; exact fun e => h e.symm)]; rfl
theorem head_vals : ∀ (l : List Oper) {K : St → Prop} {st : St}, aHead P n ops l K st → ∃ xs st', xs.length = l.length ∧ HeadV P n ops st.hp st.nx st.E l xs ∧ K st' ∧ st'.hp = st.hp ∧ st'.nx = st.nx ∧ ∀ f : Nat → Bool, (∀ i, f i = true) → ∀ b, st'.E = EL f st.E b l xs
  | [], K, st, h => ⟨[], st, rfl, trivial, h, rfl, rfl, fun _ _ _ => rfl⟩
  | o :: l, K, st, h => by
    unfold aHead at h
    have step : ∀ x, StepV P n ops st.hp st.nx st.E o x → aHead P n ops l K (st.put o.dst x) → ∃ xs st', xs.length = (o :: l).length ∧ HeadV P n ops st.hp st.nx st.E (o :: l) xs ∧ K st' ∧ st'.hp = st.hp ∧ st'.nx = st.nx ∧ ∀ f : Nat → Bool, (∀ i, f i = true) → ∀ b, st'.E = EL f st.E b (o :: l) xs := fun x hx hh => by
      obtain ⟨xs, st', h0, h1, h2, h3, h4, h5⟩ := head_vals l hh
      have e1 : (st.put o.dst x).hp = st.hp := by cases o.dst <;> rfl
      have e2 : (st.put o.dst x).nx = st.nx := by cases o.dst <;> rfl
      rw [e1, e2, put_E] at h1
      refine ⟨x :: xs, st', by simp [h0], ⟨hx, h1⟩, h2, h3.trans e1, h4.trans e2, fun f hf b => ?_⟩
      rw [h5 f hf (b + 1), put_E]
      show _ = EL f (if f b = true then updE st.E o.dst x else st.E) (b + 1) l xs
      rw [if_pos (hf b)]
    split at h
    · rename_i hg
      obtain ⟨x, hx, hd, hh⟩ := aOpH_evals h
      exact step x ⟨hd, by rw [hg]; exact hx⟩ hh
    · rename_i j want hg
      split at h
      · rename_i b hb
        by_cases hw : b = some want
        · rw [if_pos hw] at h
          obtain ⟨x, hx, hd, hh⟩ := aOpH_evals h
          exact step x ⟨hd, by rw [hg]; exact ⟨b, hb, fun _ => hx, fun h => absurd hw h⟩⟩ hh
        · rw [if_neg hw] at h
          obtain ⟨hd, hh⟩ := h
          exact step _ ⟨hd, by rw [hg]; exact ⟨b, hb, fun h => absurd h hw, fun _ => rfl⟩⟩ hh
      · exact h.elim
theorem EL_congr (f g : Nat → Bool) (t : Nat) : ∀ (l : List Oper) (xs : List AV) (E E' : Nat → Option AV) (b : Nat), E t = E' t → (∀ i o, l[i]? = some o → o.dst = some t → f (b + i) = g (b + i)) → EL f E b l xs t = EL g E' b l xs t
  | [], xs, E, E', b, h, _ => h
  | o :: l, [], E, E', b, h, _ => h
  | o :: l, x :: xs, E, E', b, h, hfg => by
    refine EL_congr f g t l xs _ _ (b + 1) ?_ (fun i o' ho hd => by have := hfg (i + 1) o' (by simpa using ho) hd; rw [show b + 1 + i = b + (i + 1) by omega]; exact this)
    by_cases hd : o.dst = some t
    · have := hfg 0 o rfl hd
      rw [Nat.add_zero] at this
      rw [this]
      split
      · unfold updE; rw [if_pos hd, if_pos hd]
      · exact h
    · have hu : ∀ E : Nat → Option AV, updE E o.dst x t = E t := fun E => if_neg hd
      have : ∀ (c : Bool) (E : Nat → Option AV), (if c = true then updE E o.dst x else E) t = E t := fun c E => by
        split
        · exact hu E
        · rfl
      rw [this, this]; exact h
theorem EL_none (f : Nat → Bool) (t : Nat) (l : List Oper) (xs : List AV) (E : Nat → Option AV) (b : Nat) (h : ∀ i o, l[i]? = some o → o.dst = some t → f (b + i) = false) : EL f E b l xs t = E t := by
  have hn : ∀ (l : List Oper) (xs : List AV) (E : Nat → Option AV) (b : Nat), EL (fun _ => false) E b l xs = E := by
    intro l
    induction l with
    | nil => intro xs E b; cases xs <;> rfl
    | cons o l ih =>
      intro xs E b
      cases xs with
      | nil => rfl
      | cons x xs => show EL _ (if false = true then _ else E) (b + 1) l xs = E; rw [if_neg (by decide), ih]
  rw [EL_congr f (fun _ => false) t l xs E E b rfl h, hn]
theorem EL_hit (f : Nat → Bool) (t : Nat) : ∀ (l : List Oper) (xs : List AV) (E : Nat → Option AV) (b i : Nat) (o : Oper) (x : AV), l[i]? = some o → xs[i]? = some x → o.dst = some t → f (b + i) = true →
    (∀ j o', l[j]? = some o' → j ≠ i → o'.dst ≠ some t) → EL f E b l xs t = some x
  | [], xs, E, b, i, o, x, h, _, _, _, _ => by simp at h
  | o0 :: l, [], E, b, i, o, x, _, h, _, _, _ => by simp at h
  | o0 :: l, x0 :: xs, E, b, i, o, x, ho, hx, hd, hf, hne => by
    cases i with
    | zero =>
      simp at ho hx; subst ho; subst hx
      show EL f (if f b = true then _ else _) (b + 1) l xs t = _
      rw [Nat.add_zero] at hf
      rw [if_pos hf, EL_none f t l xs _ (b + 1) (fun i o' ho' hd' => absurd hd' (hne (i + 1) o' (by simpa using ho') (by omega)))]
      exact if_pos hd
    | succ i =>
      exact EL_hit f t l xs _ (b + 1) i o x (by simpa using ho) (by simpa using hx) hd (by rw [show b + 1 + i = b + (i + 1) by omega]; exact hf) (fun j o' ho' hj => hne (j + 1) o' (by simpa using ho') (by omega))
theorem head_at : ∀ (l : List Oper) (xs : List AV) (E : Nat → Option AV) (b : Nat), HeadV P n ops hp nx E l xs → ∀ i o, l[i]? = some o → ∃ x, xs[i]? = some x ∧ StepV P n ops hp nx (EL (fun j => decide (j < b + i)) E b l xs) o x
  | [], xs, E, b, _, i, o, h => by simp at h
  | o0 :: l, [], E, b, h, i, o, _ => h.elim
  | o0 :: l, x0 :: xs, E, b, h, i, o, ho => by
    cases i with
    | zero =>
      simp at ho; subst ho
      refine ⟨x0, rfl, ?_⟩
      have : EL (fun j => decide (j < b + 0)) E b (o0 :: l) (x0 :: xs) = E := funext fun t => EL_none _ t _ _ _ _ (fun i _ _ _ => by simp)
      rw [this]; exact h.1
    | succ i =>
      obtain ⟨x, hx, hs⟩ := head_at l xs _ (b + 1) h.2 i o (by simpa using ho)
      refine ⟨x, by simpa using hx, ?_⟩
      have : EL (fun j => decide (j < b + (i + 1))) E b (o0 :: l) (x0 :: xs) = EL (fun j => decide (j < b + 1 + i)) (updE E o0.dst x0) (b + 1) l xs := by
        show EL _ (if decide (b < b + (i + 1)) = true then _ else _) (b + 1) l xs = _
        rw [if_pos (by simp)]
        congr 1
        funext j; rw [show b + (i + 1) = b + 1 + i by omega]
      rw [this]; exact hs
/-- A value depends on the slots that are looked at alone. -/
theorem mapM_congr {ρ ρ' : Operand → Option AV} : ∀ (l : List Operand), (∀ o ∈ l, ρ' o = ρ o) → l.mapM ρ' = l.mapM ρ
  | [], _ => rfl
  | o :: l, h => by rw [List.mapM_cons, List.mapM_cons, h o (by simp), mapM_congr l (fun o ho => h o (by simp [ho]))]
theorem args_congr {ρ ρ' : Operand → Option AV} : ∀ (l : List Operand), (∀ o ∈ l, ρ' o = ρ o) → aArgs ρ' l = aArgs ρ l
  | [], _ => rfl
  | o :: l, h => by unfold aArgs; rw [h o (by simp), args_congr l (fun o ho => h o (by simp [ho]))]
theorem parts_congr {ρ ρ' : Operand → Option AV} : ∀ (l : List (Nat × Operand)), (∀ p ∈ l, ρ' p.2 = ρ p.2) → aParts ρ' l = aParts ρ l
  | [], _ => rfl
  | (i, o) :: l, h => by unfold aParts; rw [h (i, o) (by simp), parts_congr l (fun o ho => h o (by simp [ho]))]
theorem built_congr {ρ ρ' : Operand → Option AV} (b : Builtin) (l : List Operand) (ts : List TypeId) (h : ∀ o ∈ l, ρ' o = ρ o) : aBuilt P ρ' b l ts = aBuilt P ρ b l ts := by
  unfold aBuilt
  split
  · split
    · rw [h _ (by simp)]
    · rfl
  · split
    · rw [h _ (by simp), h _ (by simp)]
    · rfl
  · split
    · rw [h _ (by simp), h _ (by simp)]
    · rw [h _ (by simp), h _ (by simp), h _ (by simp), h _ (by simp)]
    · rfl
  · rfl
theorem pure_congr {ρ ρ' : Operand → Option AV} (op : Op) (h : ∀ o ∈ op.operands.toList, ρ' o = ρ o) : aPure P ρ' hp op = aPure P ρ hp op := by
  cases op with
  | build t parts =>
    show aBuild P ρ' t parts.toList = aBuild P ρ t parts.toList
    unfold aBuild
    rw [parts_congr _ (fun p hp => h p.2 (by simp only [Op.operands]; simp only [List.mem_map]; exact ⟨p, hp, rfl⟩))]
  | buildSlice t k parts =>
    show aBuildSlice P ρ' t k parts.toList = aBuildSlice P ρ t k parts.toList
    unfold aBuildSlice
    rw [parts_congr _ (fun p hp => h p.2 (by simp only [Op.operands]; simp only [List.mem_map]; exact ⟨p, hp, rfl⟩))]
  | makeFunc fn first caps =>
    cases fn with
    | func f =>
      simp only [aPure, aVal]
      rw [mapM_congr _ (fun o ho => h o (by simp only [Op.operands, Array.toList_append, List.mem_append]; exact .inr ho)), mapM_congr first.toList (fun o ho => h o (by simp only [Op.operands, Array.toList_append, List.mem_append]; exact .inl ho))]
    | _ => rfl
  | call c =>
    simp only [aPure, aVal]
    cases hc : c.callee with
    | builtin b =>
      simp only []
      exact built_congr b _ _ (fun o ho => h o (by simp only [Op.operands, Call.operands, Array.toList_append, List.mem_append]; exact .inr ho))
    | _ => rfl
  | slice t x lo hi mx =>
    have hx : ρ' x = ρ x := h x (by simp [Op.operands])
    have hlo : lo.map ρ' = lo.map ρ := by
      cases lo with
      | none => rfl
      | some o => simp only [Option.map_some]; rw [h o (by simp [Op.operands])]
    have hhi : hi.map ρ' = hi.map ρ := by
      cases hi with
      | none => rfl
      | some o => simp only [Option.map_some]; rw [h o (by simp [Op.operands])]
    cases mx with
    | none => show aSl P t (ρ' x) (lo.map ρ') (hi.map ρ') = aSl P t (ρ x) (lo.map ρ) (hi.map ρ); rw [hx, hlo, hhi]
    | some o => rfl
  | _ =>
    simp only [Op.operands, List.mem_cons, List.not_mem_nil, or_false, forall_eq_or_imp, forall_eq, false_implies, implies_true] at h
    simp only [aPure, aVal, aBox, h]
theorem ev_congr {E E' : Nat → Option AV} {l : List Operand} (h : ∀ t ∈ l.filterMap (fun | .tmp t => some t | _ => none), E' t = E t) : ∀ o ∈ l, aEv E' o = aEv E o := fun o ho => by
  cases o with
  | tmp t => exact h t (List.mem_filterMap.2 ⟨.tmp t, ho, rfl⟩)
  | _ => rfl
theorem evals_congr {E E' : Nat → Option AV} {o : Oper} {x : AV} (h : ∀ o' ∈ o.op.operands.toList, aEv E' o' = aEv E o') (he : EvalsTo P (aEv E) hp nx o x) : EvalsTo P (aEv E') hp nx o x := by
  unfold EvalsTo at he ⊢
  have hpc := pure_congr (P := P) (hp := hp) o.op h
  split at he
  · rename_i y hy
    rw [hy] at hpc
    rw [hpc]; exact he
  · rename_i hy
    rw [hy] at hpc
    rw [hpc]
    split at he
    · rename_i op t p q ty e
      rw [e] at h
      simp only [Op.operands, List.mem_cons, List.not_mem_nil, or_false, forall_eq_or_imp, forall_eq] at h
      simp only [h]
      exact he
    · rename_i c e
      rw [e] at h
      simp only
      split at he
      · rename_i f hf
        have hargs := args_congr c.args.toList (fun o ho => h o (by simp only [Op.operands, Call.operands, Array.toList_append, List.mem_append]; exact .inr ho))
        have hfe := h f (by simp only [Op.operands, Call.operands, hf, Array.toList_append, List.mem_append]; exact .inl (by simp))
        simp only [hf, hargs, hfe]
        exact he
      · exact he.elim
    · exact he.elim
theorem step_congr {E E' : Nat → Option AV} {o : Oper} {x : AV} (h : ∀ t ∈ o.looksAt ops, E' t = E t) (hs : StepV P n ops hp nx E o x) : StepV P n ops hp nx E' o x := by
  refine ⟨hs.1, ?_⟩
  have hs2 := hs.2
  have ho := ev_congr (l := o.op.operands.toList) (E := E) (E' := E') (fun t ht => h t (List.mem_append_left _ ht))
  cases hg : o.guard with
  | none => rw [hg] at hs2; exact evals_congr ho hs2
  | some p =>
    obtain ⟨j, want⟩ := p
    rw [hg] at hs2
    obtain ⟨b, hb, h1, h2⟩ := hs2
    refine ⟨b, ?_, fun e => evals_congr ho (h1 e), h2⟩
    cases ht : (ops[j]?).bind (·.dst) with
    | none => rw [ht] at hb; exact hb
    | some t =>
      rw [ht] at hb
      show yv (E' t) = _
      rw [h t (List.mem_append_right _ (by rw [hg]; simp only [ht]; simp))]
      exact hb
theorem simE_put {E : Nat → Option AV} {a : Act} {w w' : World} {S S' : Nat → Prop} {m m' : Nat → Nat × Nat} {nx' : Nat} {hp' : List (Nat × Blk)} {d : Option Tmp} {x : AV} {v : Value} (hd : a.defers = []) (hn : a.tmps.size = F.n)
    (hE : ∀ t x, E t = some x → t < F.n ∧ Rep w S m nx x (a.tmps.getD t undef)) (hc : Carries w S m nx w' S' m' nx') (hm : Mem F hp' nx' w' S' m') (hx : Rep w' S' m' nx' x v) (hok : dstOk F.n d) :
    SimE F (updE E d x) hp' nx' (a.put d v) w' := by
  cases d with
  | none => exact ⟨hd, hn, S', m', hm, fun t y h => by rw [show updE E none x t = E t from if_neg (by simp)] at h; exact ⟨(hE t y h).1, hc _ _ (hE t y h).2⟩⟩
  | some d =>
    refine ⟨hd, by simp [Act.put, hn], S', m', hm, fun t y h => ?_⟩
    have h' : (if some d = some t then some x else E t) = some y := h
    by_cases htd : d = t
    · subst htd
      rw [if_pos rfl] at h'
      injection h' with h'; subst h'
      have hok' : d < F.n := hok
      have hlt : d < a.tmps.size := by rw [hn]; exact hok'
      refine ⟨hok', ?_⟩
      simp only [Act.put]
      rw [Array.getD_eq_getD_getElem?, Array.getElem?_setIfInBounds_self, if_pos hlt]
      exact hx
    · rw [if_neg (by simpa using htd)] at h'
      obtain ⟨h1, h2⟩ := hE t y h'
      refine ⟨h1, ?_⟩
      simp only [Act.put]
      rw [Array.getD_eq_getD_getElem?, Array.getElem?_setIfInBounds_ne htd, ← Array.getD_eq_getD_getElem?]
      exact hc _ _ h2
theorem evals_sound (hn : F.n = n) {E : Nat → Option AV} {o : Oper} {x : AV} {a : Act} {w : World} {K' : Act → World → Prop} {Q : Exit → Act → World → Prop} (hd : dstOk n o.dst) (h : EvalsTo P (aEv E) hp nx o x) (hs : SimE F E hp nx a w)
    (hK : ∀ a' w', SimE F (updE E o.dst x) hp nx a' w' → K' a' w') : o.wp P a w K' Q := by
  obtain ⟨hdf, htn, S, m, hm, hE⟩ := hs
  have hρ : ∀ o x, aEv E o = some x → Rep w S m nx x (a.eval o) := fun o x h => aEv_rep hm hE h
  unfold EvalsTo at h
  unfold Oper.wp
  split at h
  · rename_i y hy
    subst h
    obtain ⟨v, w', hr, hb, hrep⟩ := aPure_sound hm hρ o hy
    rw [hr]
    exact hK _ _ (simE_put hdf htn hE (fun x u hx => hx.belowW hb) (hm.below hb) hrep (by rw [hn]; exact hd))
  · split at h
    · rename_i op t p q ty e
      split at h
      · rename_i x' y' hx hy
        obtain ⟨b, hb, rfl⟩ := h
        have hr := hb w S m nx _ _ p q (hρ _ _ hx) (hρ _ _ hy)
        have : (execOp a.eval o).run P w = .ok (.value (.bool b)) w := by
          simp only [execOp, e]
          rw [Sem.run_bind, hr]; rfl
        rw [this]
        exact hK _ _ (simE_put hdf htn hE (fun x u hx => hx) hm (.s _) (by rw [hn]; exact hd))
      · exact h.elim
    · rename_i c e
      split at h
      · rename_i f hcal
        split at h
        · rename_i g caps args hf hargs
          obtain ⟨args', hp1, hsub, ⟨hent, hspec⟩, hs1⟩ := h
          have hfr := hρ _ _ hf
          obtain ⟨fv, hfv⟩ : ∃ fv, a.eval f = fv := ⟨_, rfl⟩
          rw [hfv] at hfr
          cases hfr with
          | fn cv hl hcr =>
            have ha := args_rep hρ _ _ hargs
            have hall := repA_sub hsub (repA_append ha ⟨hl, hcr⟩)
            have hcall := hspec w S m _ (hm.sub hs1) hall
            have hrun : (execOp a.eval o).run P w = .ok (.enter g ((c.args.toList.map a.eval).toArray ++ cv)) w := by
              obtain ⟨cal, cargs, cts⟩ := c
              simp only at hcal
              subst hcal
              have he := hent ((cargs.toList.map a.eval).toArray ++ cv) w
              have hmap : cargs.map a.eval = (cargs.toList.map a.eval).toArray := by obtain ⟨l⟩ := cargs; simp
              simp only [execOp, e, resolve, Deferred.ofValue, hfv, hmap, Sem.run_bind, Sem.run_pure, Result.andThen_ok, invoke, Array.empty_append]
              exact he
            rw [hrun]
            refine Calls.mono hcall fun e' w' ⟨v, S', m', he', hm', hrep⟩ => ?_
            subst he'
            obtain ⟨j1, j2⟩ := hm.join hs1 hm' (fun b k hg _ => by rw [hg]; rfl)
            have j3 : Mem F hp nx w' S' m' := j1.fewer (fun b k hg => by
              rw [get_append, get_frame]
              cases h1 : get b hp1 with
              | some k' => have := hs1 b k' h1; rw [hg] at this; exact this.symm
              | none => simpa using hg)
            exact hK _ _ (simE_put hdf htn hE j2 j3 hrep (by rw [hn]; exact hd))
        · exact h.elim
      · exact h.elim
    · exact h.elim
theorem stepV_sound (hn : F.n = n) {E : Nat → Option AV} {i : Nat} {o : Oper} (ho : ops[i]? = some o) {x : AV} {a : Act} {w : World} {K' : Act → World → Prop} {Q : Exit → Act → World → Prop} (h : StepV P n ops hp nx E o x) (hs : SimE F E hp nx a w)
    (hK : ∀ a' w', SimE F (updE E o.dst x) hp nx a' w' → K' a' w') : wpOp P ops Q i K' a w := by
  unfold wpOp
  rw [ho]
  simp only
  have h2 := h.2
  cases hg : o.guard with
  | none =>
    rw [hg] at h2
    rw [if_pos (by simp [Region.wanted, hg])]
    exact .inl (evals_sound hn h.1 h2 hs hK)
  | some p =>
    obtain ⟨j, want⟩ := p
    rw [hg] at h2
    obtain ⟨b, hb, h3, h4⟩ := h2
    have hs0 := hs
    obtain ⟨hd, htn, S, m, hm, hE⟩ := hs
    have hy : yielded ops a.tmps j = b := by
      obtain ⟨v, hv0, hbv⟩ := yv_some hb
      obtain ⟨t, ht, h5⟩ := bind_some' hv0
      obtain ⟨h6, h7⟩ := hE t _ h5
      have hlt : t < a.tmps.size := by rw [htn]; exact h6
      unfold yielded
      rw [ht]
      have hv : a.tmps[t]? = some (a.tmps.getD t undef) := by simp [hlt]
      obtain ⟨u, hu⟩ : ∃ u, a.tmps.getD t undef = u := ⟨_, rfl⟩
      rw [hu] at h7 hv
      cases h7
      show (match a.tmps[t]? with
        | some (.bool b) => some b
        | _ => none) = b
      rw [hv, hbv]
      cases v <;> rfl
    by_cases hbw : b = some want
    · rw [if_pos (by simp [Region.wanted, hg, hy, hbw])]
      exact .inl (evals_sound hn h.1 (h3 hbw) hs0 hK)
    · rw [if_neg (by simp [Region.wanted, hg, hy, hbw])]
      have := h4 hbw; subst this
      exact hK _ _ (simE_put hd htn hE (fun x u hx => hx) hm (.s _) (by rw [hn]; exact h.1))
/-- Nothing of the tail is carried out before the head. -/
theorem edge_ready {i j : Nat} {listed : Array Bool} (hr : i ∈ Region.ready .any ops listed) (he : edge ops i j = true) : listed.getD j false = true := by
  obtain ⟨_, o, ho, hall⟩ := mem_ready.1 hr
  unfold edge at he
  rw [ho] at he
  obtain ⟨e, hm, hb⟩ := Array.any_eq_true'.1 he
  simp only [Bool.and_eq_true, beq_iff_eq] at hb
  rw [← hb.2]; exact hall e hm hb.1
theorem drawOk_at {k i : Nat} (h : drawOk ops k = true) {o : Oper} (ho : ops[i]? = some o) : (∀ e ∈ o.after, Region.binds .any e = true → e.on < i) ∧ (k ≤ i → ∀ j, j < i → edge ops i j = true) ∧
    (i < k → ∀ j o' d, ops[j]? = some o' → j ≠ i → o'.dst = some d → o.dst ≠ some d ∧ (d ∈ o.looksAt ops → (j < i → edge ops i j = true) ∧ (i < j → edge ops j i = true))) := by
  have hlt : i < ops.size := (Array.getElem?_eq_some_iff.1 ho).1
  unfold drawOk at h
  have h1 := List.all_eq_true.1 h i (List.mem_range.2 hlt)
  rw [ho] at h1
  simp only [Bool.and_eq_true] at h1
  obtain ⟨ha, hb⟩ := h1
  refine ⟨fun e he hbe => ?_, fun hk j hj => ?_, fun hk j o' d hj hne hd => ?_⟩
  · have := (Array.all_eq_true_iff_forall_mem.1 ha) e he
    simpa [hbe] using this
  · rw [if_pos hk] at hb
    exact List.all_eq_true.1 hb j (List.mem_range.2 hj)
  · rw [if_neg (by omega)] at hb
    have hjl : j < ops.size := (Array.getElem?_eq_some_iff.1 hj).1
    have h2 := List.all_eq_true.1 hb j (List.mem_range.2 hjl)
    rw [hj] at h2
    simp only [Option.bind_some, hd, Bool.or_eq_true, beq_iff_eq, hne, false_or, Bool.and_eq_true, bne_iff_ne, ne_eq, Bool.not_eq_true'] at h2
    refine ⟨h2.1, fun hm => ?_⟩
    rcases h2.2 with h3 | h3
    · have : (o.looksAt ops).contains d = true := by simpa using hm
      rw [this] at h3; cases h3
    · exact ⟨fun hlt => by rw [if_pos hlt] at h3; exact h3, fun hlt => by rw [if_neg (by omega)] at h3; exact h3⟩
theorem all_listed {k : Nat} (h : drawOk ops k = true) {listed : Array Bool} (hr : Region.ready .any ops listed = []) (hsz : listed.size = ops.size) : ∀ i, i < ops.size → listed.getD i false = true := by
  intro i
  induction i using Nat.strongRecOn with
  | _ i ih =>
    intro hi
    cases hl : listed.getD i false with
    | true => rfl
    | false =>
      have ho : ops[i]? = some ops[i] := Array.getElem?_eq_getElem hi
      have : i ∈ Region.ready .any ops listed := mem_ready.2 ⟨by
        have hlt : i < listed.size := by omega
        simp [hlt] at hl ⊢; exact hl, _, ho, fun e he hb => ih e.on ((drawOk_at h ho).1 e he hb) (by have := (drawOk_at h ho).1 e he hb; omega)⟩
      rw [hr] at this; cases this
def cnt (l : Array Bool) : Nat := l.toList.countP (fun b => !b)
theorem cnt_set {l : Array Bool} {i : Nat} (hi : i < l.size) (h : l.getD i true = false) : cnt (l.setIfInBounds i true) + 1 = cnt l := by
  unfold cnt
  rw [Array.toList_setIfInBounds, List.countP_set (by simpa using hi)]
  have h' : l.toList[i]'(by simpa using hi) = false := by simp [hi] at h; simpa using h
  have hpos : 0 < l.toList.countP (fun b => !b) := List.countP_pos_iff.2 ⟨false, by rw [← h']; exact List.getElem_mem _, rfl⟩
  rw [h']
  simp only [Bool.not_false, Bool.not_true, if_true, Bool.false_eq_true, if_false]
  omega
theorem cnt_zero {l : Array Bool} (h : cnt l = 0) (i : Nat) (hi : i < l.size) : l.getD i false = true := by
  unfold cnt at h
  have := List.countP_eq_zero.1 h l[i] (by simp)
  simpa [hi] using this
theorem getD_both' {l : Array Bool} {i : Nat} (h : l.getD i false = true) : l.getD i true = true := by
  rcases Nat.lt_or_ge i l.size with hi | hi
  · simp [hi] at h ⊢; exact h
  · simp [Array.getElem?_eq_none hi] at h
theorem tail_any (hn : F.n = n) {k : Nat} (hk : drawOk ops k = true) {K : St → Prop} {Q : Exit → Act → World → Prop} (hQ : ∀ st' a' w', K st' → Sim F st' a' w' → Q .normal a' w') :
    ∀ (l : List Oper) (i : Nat) (fuel : Nat) (listed : Array Bool) {st : St} {a : Act} {w : World}, k ≤ i → l = ops.toList.drop i → i + l.length = ops.size → cnt listed = fuel → listed.size = ops.size → (∀ j, listed.getD j false = decide (j < i)) →
      aOps P n ops l K st → Sim F st a w → wpAny P .any ops Q fuel listed a w
  | [], i, fuel, listed, st, a, w, hki, hl, hil, hc, hsz, hli, h, hs => by
    have hi : i = ops.size := by simpa using hil
    have hr : Region.ready .any ops listed = [] := by
      cases hr : Region.ready .any ops listed with
      | nil => rfl
      | cons j js =>
        have hm : j ∈ Region.ready .any ops listed := by rw [hr]; simp
        obtain ⟨h1, o, ho, _⟩ := mem_ready.1 hm
        have hj : j < ops.size := (Array.getElem?_eq_some_iff.1 ho).1
        have := getD_both' (l := listed) (i := j) (by rw [hli]; simp; omega)
        rw [this] at h1; cases h1
    exact wpAny_done hr (hQ _ _ _ h hs) fuel
  | o :: l, i, fuel, listed, st, a, w, hki, hl, hil, hc, hsz, hli, h, hs => by
    simp only [List.length_cons] at hil
    have hi : i < ops.size := by omega
    have ho : ops[i]? = some o := by
      have : (ops.toList.drop i)[0]? = some o := by rw [← hl]; rfl
      rw [List.getElem?_drop] at this; simpa using this
    have hun : listed.getD i true = false := by
      have h1 := hli i
      have hlt : i < listed.size := by omega
      simp [hlt] at h1 ⊢; exact h1
    have hcs := cnt_set (l := listed) (by omega) hun
    cases fuel with
    | zero => omega
    | succ fuel =>
      have honly : ∀ j, j ∈ Region.ready .any ops listed → j = i := fun j hj => by
        obtain ⟨h1, o', ho', _⟩ := mem_ready.1 hj
        have hjn : ¬ j < i := fun hh => by
          have := getD_both' (l := listed) (i := j) (by rw [hli]; simpa using hh)
          rw [this] at h1; cases h1
        rcases Nat.lt_or_ge i j with hij | hij
        · have := edge_ready hj ((drawOk_at hk ho').2.1 (by omega) i hij)
          rw [hli] at this; simp at this
        · omega
      have hready : i ∈ Region.ready .any ops listed := mem_ready.2 ⟨hun, o, ho, fun e he hb => by rw [hli]; simpa using (drawOk_at hk ho).1 e he hb⟩
      refine ⟨fun h0 => (by rw [h0] at hready; cases hready), fun j hj => ?_⟩
      have := honly j hj; subst this
      have ih : ∀ st' a' w', aOps P n ops l K st' → Sim F st' a' w' → wpAny P .any ops Q fuel (listed.setIfInBounds j true) a' w' := fun st' a' w' hh hs' =>
        tail_any hn hk hQ l (j + 1) fuel (listed.setIfInBounds j true) (by omega) (by
          have := congrArg List.tail hl
          simpa [List.tail_drop] using this) (by omega) (by omega) (by simpa using hsz) (fun q => by
          by_cases hq : q = j
          · subst hq
            have hlt : q < listed.size := by omega
            simp [hlt]
          · rw [Array.getD_eq_getD_getElem?, Array.getElem?_setIfInBounds_ne (Ne.symm hq), ← Array.getD_eq_getD_getElem?, hli]
            simp only [decide_eq_decide]; omega) hh hs'
      unfold wpOp
      rw [ho]
      simp only
      unfold aOps at h
      split at h
      · rename_i hg
        rw [if_pos (by simp [Region.wanted, hg])]
        exact .inl (aOp_sound hn h hs (fun st' a' w' hk' hs' => ih st' a' w' hk' hs'))
      · rename_i g want hg
        split at h
        · rename_i b hb
          have hs0 := hs
          obtain ⟨hd, htn, S, m, hm, hE⟩ := hs
          have hy := yielded_E htn hE hb
          by_cases hbw : b = some want
          · rw [if_pos (by simp [Region.wanted, hg, hy, hbw])]
            rw [if_pos hbw] at h
            exact .inl (aOp_sound hn h hs0 (fun st' a' w' hk' hs' => ih st' a' w' hk' hs'))
          · rw [if_neg (by simp [Region.wanted, hg, hy, hbw])]
            rw [if_neg hbw] at h
            obtain ⟨hdo, hk'⟩ := h
            exact ih _ _ _ hk' (Sim.put (hp := st.hp) (nx := st.nx) hd htn hE (fun x u hx => hx) hm (.s _) (by rw [hn]; exact hdo))
        · exact h.elim
theorem aDraw_sound1 (hn : F.n = n) {id : Nat} {K : St → Prop} {st : St} {a : Act} {w : World} {Q : Exit → Act → World → Prop} (h : P.follows .mixedOrders = true ∧ ∃ k, drawOk ops k = true ∧ aHead P n ops (ops.toList.take k) (fun st => aOps P n ops (ops.toList.drop k) K st) st) (hs : Sim F st a w) (hQ : ∀ st' a' w', K st' → Sim F st' a' w' → Q .normal a' w') :
    (Code.region id ops true).wp P Q a w := by
  obtain ⟨hmix, k, hk, hh⟩ := h
  refine wp_region_any hmix ?_
  obtain ⟨xs, st', hxl, hv, htail, he1, he2, hfull⟩ := head_vals _ hh
  have hll : (ops.toList.take k).length = min k ops.size := by simp
  have hget : ∀ i, i < k → (ops.toList.take k)[i]? = ops[i]? := fun i hi => by rw [List.getElem?_take, if_pos hi]; simp
  have hgo : ∀ i o, (ops.toList.take k)[i]? = some o → i < k ∧ ops[i]? = some o := fun i o ho => by
    have hi : i < k := by
      rw [List.getElem?_take] at ho
      split at ho
      · assumption
      · cases ho
    exact ⟨hi, by rw [← hget i hi]; exact ho⟩
  have main : ∀ (fuel : Nat) (listed : Array Bool) (a : Act) (w : World), cnt listed = fuel → listed.size = ops.size → (∀ i o, ops[i]? = some o → listed.getD i false = true → ∀ e ∈ o.after, Region.binds .any e = true → listed.getD e.on false = true) →
      (∀ i, k ≤ i → listed.getD i false = false) → SimE F (EL (fun j => listed.getD j false) st.E 0 (ops.toList.take k) xs) st.hp st.nx a w → wpAny P .any ops Q fuel listed a w := by
    have toTail : ∀ (fuel : Nat) (listed : Array Bool) (a : Act) (w : World), cnt listed = fuel → listed.size = ops.size → (∀ j, listed.getD j false = decide (j < min k ops.size)) →
        SimE F (EL (fun j => listed.getD j false) st.E 0 (ops.toList.take k) xs) st.hp st.nx a w → wpAny P .any ops Q fuel listed a w := by
      intro fuel listed a w hc hsz hli hs
      have hE : EL (fun j => listed.getD j false) st.E 0 (ops.toList.take k) xs = st'.E := by
        rw [hfull (fun _ => true) (fun _ => rfl) 0]
        funext t
        refine EL_congr _ _ t _ _ _ _ 0 rfl (fun i o ho _ => ?_)
        have hlt : i < min k ops.size := by rw [← hll]; exact (List.getElem?_eq_some_iff.1 ho).1
        rw [hli]; simp only [Nat.zero_add]; exact decide_eq_true hlt
      rw [hE, ← he1, ← he2] at hs
      by_cases hks : k ≤ ops.size
      · exact tail_any hn hk hQ _ k fuel listed (Nat.le_refl _) rfl (by simp; omega) hc hsz (fun j => by rw [hli, Nat.min_eq_left hks]) htail hs
      · have hd : ops.toList.drop k = [] := List.drop_eq_nil_iff.2 (by simp; omega)
        rw [hd] at htail
        have hr : Region.ready .any ops listed = [] := by
          cases hr : Region.ready .any ops listed with
          | nil => rfl
          | cons j js =>
            have hm : j ∈ Region.ready .any ops listed := by rw [hr]; simp
            obtain ⟨h1, o, ho, _⟩ := mem_ready.1 hm
            have hj : j < ops.size := (Array.getElem?_eq_some_iff.1 ho).1
            have := getD_both' (l := listed) (i := j) (by rw [hli]; simp; omega)
            rw [this] at h1; cases h1
        exact wpAny_done hr (hQ _ _ _ htail hs) fuel
    intro fuel
    induction fuel with
    | zero =>
      intro listed a w hc hsz hcl htl hs
      refine toTail 0 listed a w hc hsz (fun j => ?_) hs
      by_cases hj : j < ops.size
      · have := cnt_zero hc j (by omega)
        rw [this]; symm; apply decide_eq_true
        rcases Nat.lt_or_ge j k with h1 | h1
        · omega
        · rw [htl j h1] at this; cases this
      · have : listed.getD j false = false := by simp [Array.getElem?_eq_none (by omega : listed.size ≤ j)]
        rw [this]; symm; apply decide_eq_false; omega
    | succ fuel ih =>
      intro listed a w hc hsz hcl htl hs
      by_cases hhead : ∀ j, j < min k ops.size → listed.getD j false = true
      · refine toTail _ listed a w hc hsz (fun j => ?_) hs
        by_cases hj : j < min k ops.size
        · rw [hhead j hj]; symm; exact decide_eq_true hj
        · have : listed.getD j false = false := by
            rcases Nat.lt_or_ge j ops.size with h1 | h1
            · exact htl j (by omega)
            · simp [Array.getElem?_eq_none (by omega : listed.size ≤ j)]
          rw [this]; symm; exact decide_eq_false hj
      · refine ⟨fun h0 => ?_, fun i hi => ?_⟩
        · exact absurd (fun j hj => all_listed hk h0 hsz j (by omega)) hhead
        · obtain ⟨hun, o, ho, hafter⟩ := mem_ready.1 hi
          have hisz : i < ops.size := (Array.getElem?_eq_some_iff.1 ho).1
          have hunf : listed.getD i false = false := by
            have hlt : i < listed.size := by omega
            simp [hlt] at hun ⊢; exact hun
          have hik : i < k := by
            rcases Nat.lt_or_ge i k with h1 | h1
            · exact h1
            · exact absurd (fun j hj => edge_ready hi ((drawOk_at hk ho).2.1 h1 j (by omega))) hhead
          obtain ⟨x, hx, hst⟩ := head_at _ _ _ 0 hv i o (by rw [hget i hik]; exact ho)
          have hst' : StepV P n ops st.hp st.nx (EL (fun j => listed.getD j false) st.E 0 (ops.toList.take k) xs) o x := by
            refine step_congr (fun t ht => ?_) hst
            refine EL_congr _ _ t _ _ _ _ 0 rfl (fun j o' hj hd => ?_)
            obtain ⟨hjk, hj'⟩ := hgo j o' hj
            simp only [Nat.zero_add]
            by_cases hji : j = i
            · subst hji; rw [hunf]; simp
            · obtain ⟨_, h2⟩ := (drawOk_at hk ho).2.2 hik j o' t hj' hji hd
              obtain ⟨h3, h4⟩ := h2 ht
              rcases Nat.lt_or_gt_of_ne hji with h5 | h5
              · rw [edge_ready hi (h3 h5)]; symm; exact decide_eq_true h5
              · have hnl : listed.getD j false = false := by
                  cases hl : listed.getD j false with
                  | false => rfl
                  | true =>
                    have he := h4 h5
                    unfold edge at he
                    rw [hj'] at he
                    obtain ⟨e, hm, hb⟩ := Array.any_eq_true'.1 he
                    simp only [Bool.and_eq_true, beq_iff_eq] at hb
                    have := hcl j o' hj' hl e hm hb.1
                    rw [hb.2, hunf] at this; cases this
                rw [hnl]; symm; exact decide_eq_false (by omega)
          refine stepV_sound hn ho hst' hs (fun a' w' hs' => ?_)
          have hcs := cnt_set (l := listed) (i := i) (by omega) hun
          refine ih (listed.setIfInBounds i true) a' w' (by omega) (by simpa using hsz) (fun j o' hj hl e he hb => ?_) (fun j hj => ?_) ?_
          · have keep : ∀ q, listed.getD q false = true → (listed.setIfInBounds i true).getD q false = true := fun q hq => getD_set_true hq
            by_cases hji : j = i
            · subst hji
              rw [ho] at hj; injection hj with hj; subst hj
              exact keep _ (hafter e he hb)
            · refine keep _ (hcl j o' hj ?_ e he hb)
              rw [getD_set_ne false (Ne.symm hji)] at hl; exact hl
          · rw [getD_set_ne false (by omega)]; exact htl j hj
          · have : EL (fun j => (listed.setIfInBounds i true).getD j false) st.E 0 (ops.toList.take k) xs = updE (EL (fun j => listed.getD j false) st.E 0 (ops.toList.take k) xs) o.dst x := by
              funext t
              unfold updE
              by_cases hd : o.dst = some t
              · rw [if_pos hd]
                refine EL_hit _ t _ _ _ 0 i o x (by rw [hget i hik]; exact ho) hx hd ?_ (fun j o' hj hji hd' => ?_)
                · have hlt : i < listed.size := by omega
                  simp [hlt]
                · obtain ⟨_, hj'⟩ := hgo j o' hj
                  exact ((drawOk_at hk ho).2.2 hik j o' t hj' hji hd').1 hd
              · rw [if_neg hd]
                refine EL_congr _ _ t _ _ _ _ 0 rfl (fun j o' hj hd' => ?_)
                obtain ⟨hjk, hj'⟩ := hgo j o' hj
                simp only [Nat.zero_add]
                by_cases hji : j = i
                · subst hji; rw [ho] at hj'; injection hj' with hj'; subst hj'; exact absurd hd' hd
                · exact getD_set_ne false (Ne.symm hji)
            rw [this]; exact hs'
  have hs0 : SimE F st.E st.hp st.nx a w.drew := by
    obtain ⟨hd, htn, S, m, hm, hE⟩ := hs
    exact ⟨hd, htn, S, m, hm.below (below_drew w), fun t x h => ⟨(hE t x h).1, (hE t x h).2.belowW (below_drew w)⟩⟩
  have hrep : ∀ j, (Array.replicate ops.size false).getD j false = false := fun j => by
    rcases Nat.lt_or_ge j ops.size with h1 | h1
    · simp [h1]
    · simp [Array.getElem?_eq_none (by simpa using h1 : (Array.replicate ops.size false).size ≤ j)]
  refine main ops.size (Array.replicate ops.size false) a w.drew ?_ (by simp) (fun i o ho hl => by rw [hrep] at hl; cases hl) (fun i _ => hrep i) ?_
  · unfold cnt
    rw [Array.toList_replicate, List.countP_replicate]; simp
  · have : EL (fun j => (Array.replicate ops.size false).getD j false) st.E 0 (ops.toList.take k) xs = st.E := funext fun t => EL_none _ t _ _ _ 0 (fun i o _ _ => hrep _)
    rw [this]; exact hs0
end
end Go.Proofs.YtdfokoapenhalaaDoor.Ab
end
section
namespace Go.Proofs.YtdfokoapenhalaaDoor.Ab
open Go Go.RowKit Go.Shelf
section
variable {P : Program} {n : Nat} {F : Fr}
theorem heap_congr {ρ ρ' : Operand → Option AV} {hp : List (Nat × Blk)} {nx : Nat} (op : Op) (h : ∀ o ∈ op.operands.toList, ρ' o = ρ o) : aHeap P ρ' hp nx op = aHeap P ρ hp nx op := by
  cases op with
  | call c =>
    cases hc : c.callee with
    | builtin b =>
      have h' : ∀ o ∈ c.args.toList, ρ' o = ρ o := fun o ho => h o (by simp only [Op.operands, Call.operands, Array.toList_append, List.mem_append]; exact .inr ho)
      simp only [aHeap, hc]
      generalize c.args.toList = l at *
      cases b <;> first | rfl | skip
      all_goals
        match l with
        | [] => rfl
        | [_] => rfl
        | [s, x] =>
          generalize c.argTypes.toList = ts
          match ts with
          | [] => rfl
          | [_] => rfl
          | [t, t'] => simp only [h' s (by simp), h' x (by simp)]
          | _ :: _ :: _ :: _ => rfl
        | _ :: _ :: _ :: _ => rfl
    | _ => simp only [aHeap, hc]
  | makeMap t r => cases r <;> rfl
  | _ =>
    simp only [Op.operands, List.mem_cons, List.not_mem_nil, or_false, forall_eq_or_imp, forall_eq, false_implies, implies_true] at h
    simp only [aHeap, h]
theorem own_congr {ρ ρ' : Operand → Option AV} {hp : List (Nat × Blk)} {nx : Nat} (op : Op) (h : ∀ o ∈ op.operands.toList, ρ' o = ρ o) : aBuildOwn P ρ' hp nx op = aBuildOwn P ρ hp nx op := by
  cases op with
  | buildSlice t k parts =>
    unfold aBuildOwn
    simp only
    rw [parts_congr _ (fun p hp => h p.2 (by simp only [Op.operands]; simp only [List.mem_map]; exact ⟨p, hp, rfl⟩))]
  | _ => rfl
theorem aOp_congr {o : Oper} {K K' : St → Prop} {st st' : St} (h : ∀ o' ∈ o.op.operands.toList, aEv st'.E o' = aEv st.E o') (hh : st'.hp = st.hp) (hx : st'.nx = st.nx)
    (hK : ∀ x hp nx, K ((St.mk st.env hp nx).put o.dst x) → K' ((St.mk st'.env hp nx).put o.dst x)) (ha : aOp P n o K K st) : aOp P n o K' K' st' := by
  rcases ha with ha | ⟨r, hr, hdo, hk⟩
  rotate_left
  · refine .inr ⟨r, ?_, hdo, hK _ _ _ hk⟩
    rw [hh, hx, own_congr o.op h]; exact hr
  refine .inl ?_
  unfold aOp0 at ha ⊢
  rw [hh, hx, pure_congr o.op h, heap_congr o.op h]
  cases hp : aPure P (aEv st.E) st.hp o.op with
  | some x =>
    rw [hp] at ha
    refine ⟨ha.1, ?_⟩
    have := hK x st.hp st.nx ha.2
    rw [← hh, ← hx] at this
    exact this
  | none =>
    rw [hp] at ha
    simp only at ha ⊢
    cases hq : aHeap P (aEv st.E) st.hp st.nx o.op with
    | some y =>
      rw [hq] at ha
      exact ⟨ha.1, hK _ _ _ ha.2⟩
    | none =>
      rw [hq] at ha
      simp only at ha ⊢
      have hput : ∀ x, K (st.put o.dst x) → K' (st'.put o.dst x) := fun x hx' => by
        have := hK x st.hp st.nx hx'
        rw [← hh, ← hx] at this; exact this
      cases e : o.op with
      | binOp op t x y g =>
        rw [e] at h ha
        simp only at ha ⊢
        rw [h x (by simp [Op.operands]), h y (by simp [Op.operands])]
        split at ha
        · obtain ⟨b, h1, h2, h3⟩ := ha
          exact ⟨b, h1, h2, hput _ h3⟩
        · exact ha.elim
      | call c =>
        rw [e] at h ha
        simp only at ha ⊢
        cases hc : c.callee with
        | value f =>
          rw [hc] at ha
          simp only at ha ⊢
          have hf : aEv st'.E f = aEv st.E f := h f (by simp [Op.operands, Call.operands, hc])
          have hargs := args_congr (ρ := aEv st.E) (ρ' := aEv st'.E) c.args.toList (fun o ho => h o (by simp only [Op.operands, Call.operands, Array.toList_append, List.mem_append]; exact .inr ho))
          rw [hf, hargs]
          split at ha
          · obtain ⟨args', hp1, r, hp1', nx', h1, h2, h3, h4, h5, h6⟩ := ha
            exact ⟨args', hp1, r, hp1', nx', h1, h2, h3, h4, h5, hK _ _ _ h6⟩
          · obtain ⟨args', hp1, r, hp1', nx', h1, h2, h3, h4, h5, h6⟩ := ha
            exact ⟨args', hp1, r, hp1', nx', h1, h2, h3, h4, h5, hK _ _ _ h6⟩
          · exact ha.elim
        | _ => rw [hc] at ha; exact ha.elim
      | _ => rw [e] at ha; exact ha.elim
theorem aVal_slot {E : Nat → Option AV} {hp hp' : List (Nat × Blk)} {op : Op} (h : slotOp op = true) : aPure P (aEv E) hp op = aPure P (aEv E) hp' op := by
  cases op with
  | load t x =>
    cases x with
    | global g =>
      show ((aEv E (.global g)).bind (aLoad P t hp)) = ((aEv E (.global g)).bind (aLoad P t hp'))
      have e : aEv E (.global g) = (get g globTab).map fun cs => .ip (cs.map .s) := rfl
      rw [e]; cases get g globTab <;> rfl
    | _ => simp [slotOp] at h
  | _ => first | rfl | (simp [slotOp] at h)
theorem get_filter {α : Type} (p : Nat → Bool) (t : Nat) : ∀ l : List (Nat × α), get t (l.filter fun x => p x.1) = if p t = true then get t l else none
  | [] => by simp [get]
  | (k, v) :: l => by
    have ih := get_filter p t l
    rw [List.filter_cons]
    by_cases hk : p k = true
    · rw [if_pos hk]
      show (if t = k then some v else get t (l.filter fun x => p x.1)) = _
      by_cases e : t = k
      · subst e; rw [if_pos rfl, if_pos hk]; show _ = (if t = t then some v else _); rw [if_pos rfl]
      · rw [if_neg e, ih]; show _ = if p t = true then (if t = k then some v else get t l) else none; rw [if_neg e]
    · rw [if_neg hk, ih]
      by_cases e : t = k
      · subst e; rw [if_neg hk, if_neg hk]
      · show _ = if p t = true then (if t = k then some v else get t l) else none; rw [if_neg e]
/-- The targets of the head's operations that are not carried out yet. -/
def open_ (ops : Array Oper) (k : Nat) (listed : Array Bool) (t : Nat) : Bool := (List.range k).any fun j => !listed.getD j false && ((ops[j]?).bind (·.dst)) == some t
/-- The state without those. -/
def less (ops : Array Oper) (k : Nat) (listed : Array Bool) (st : St) : St := ⟨st.env.filter fun x => !open_ ops k listed x.1, st.hp, st.nx⟩
theorem less_E (ops : Array Oper) (k : Nat) (listed : Array Bool) (st : St) (t : Nat) : (less ops k listed st).E t = if open_ ops k listed t = true then none else st.E t := by
  show get t (st.env.filter fun x => !open_ ops k listed x.1) = _
  rw [get_filter (fun t => !open_ ops k listed t)]
  cases open_ ops k listed t <;> rfl
end
end Go.Proofs.YtdfokoapenhalaaDoor.Ab
end
section
namespace Go.Proofs.YtdfokoapenhalaaDoor.Ab
open Go Go.RowKit Go.Shelf
section
variable {P : Program} {n : Nat} {F : Fr} {ops : Array Oper}
/-- Who comes before is listed, where what is listed is closed. -/
def Before (ops : Array Oper) (i j : Nat) : Prop := ∀ Lst : Nat → Prop, (∀ q o, ops[q]? = some o → Lst q → ∀ e ∈ o.after, Region.binds .any e = true → Lst e.on) → (∀ o, ops[i]? = some o → ∀ e ∈ o.after, Region.binds .any e = true → Lst e.on) → Lst j
theorem maskO_before {cl : List Nat} (hcl : ∀ i j, (cl.getD i 0).testBit j = true → Before ops i j) {i : Nat} {o : Oper} (ho : ops[i]? = some o) {j : Nat} (h : (maskO cl o).testBit j = true) : Before ops i j := by
  unfold maskO at h
  have key : ∀ (l : List Edge) (m : Nat), (∀ e ∈ l, e ∈ o.after) → (m.testBit j = true → Before ops i j) → (l.foldl (fun m e => if Region.binds .any e = true then m ||| (1 <<< e.on) ||| cl.getD e.on 0 else m) m).testBit j = true → Before ops i j := by
    intro l
    induction l with
    | nil => intro m _ hm h; exact hm h
    | cons e l ih =>
      intro m hl hm h
      rw [List.foldl_cons] at h
      refine ih _ (fun e' he' => hl e' (List.mem_cons_of_mem _ he')) (fun h2 => ?_) h
      by_cases hb : Region.binds .any e = true
      · rw [if_pos hb] at h2
        rw [Nat.testBit_or, Nat.testBit_or, Bool.or_eq_true, Bool.or_eq_true] at h2
        rcases h2 with (h2 | h2) | h2
        · exact hm h2
        · have hj : j = e.on := by
            rw [Nat.testBit_shiftLeft] at h2
            simp only [Bool.and_eq_true, decide_eq_true_eq] at h2
            have h3 := h2.2
            rcases Nat.eq_zero_or_pos (j - e.on) with h4 | h4
            · omega
            · rw [Nat.testBit_lt_two_pow (Nat.one_lt_two_pow (by omega))] at h3; cases h3
          subst hj
          exact fun Lst _ hp => hp o ho e (hl e List.mem_cons_self) hb
        · exact fun Lst hc hp => hcl e.on j h2 Lst hc (fun o' ho' e' he' hb' => hc e.on o' ho' (hp o ho e (hl e List.mem_cons_self) hb) e' he' hb')
      · rw [if_neg hb] at h2; exact hm h2
  exact key o.after.toList 0 (fun e he => by simpa using he) (fun h0 => by simp at h0) h
theorem masks_before : ∀ (l : List Oper) (cl : List Nat), l = ops.toList.drop cl.length → (∀ i j, (cl.getD i 0).testBit j = true → Before ops i j) → ∀ i j, ((masksFrom l cl).getD i 0).testBit j = true → Before ops i j
  | [], cl, _, h, i, j, hb => h i j hb
  | o :: l, cl, hl, h, i, j, hb => by
    have ho : ops[cl.length]? = some o := by
      have : (ops.toList.drop cl.length)[0]? = some o := by rw [← hl]; rfl
      rw [List.getElem?_drop] at this; simpa using this
    refine masks_before l (cl ++ [maskO cl o]) ?_ ?_ i j hb
    · have := congrArg List.tail hl
      simpa [List.tail_drop] using this
    · intro i' j' hb'
      rw [List.getD_eq_getElem?_getD] at hb'
      rcases Nat.lt_trichotomy i' cl.length with h1 | h1 | h1
      · rw [List.getElem?_append_left h1, ← List.getD_eq_getElem?_getD] at hb'; exact h i' j' hb'
      · subst h1
        rw [List.getElem?_append_right (Nat.le_refl _)] at hb'
        simp at hb'
        exact maskO_before h ho hb'
      · rw [List.getElem?_eq_none (by simp; omega)] at hb'; simp at hb'
theorem edgeT_before {i j : Nat} (h : edgeT ops i j = true) : Before ops i j := masks_before ops.toList [] rfl (fun i j h => by simp at h) i j h
theorem edgeT_ready {i j : Nat} {listed : Array Bool} (hcl : ∀ i o, ops[i]? = some o → listed.getD i false = true → ∀ e ∈ o.after, Region.binds .any e = true → listed.getD e.on false = true) (hr : i ∈ Region.ready .any ops listed) (he : edgeT ops i j = true) : listed.getD j false = true := by
  obtain ⟨_, o, ho, hall⟩ := mem_ready.1 hr
  exact edgeT_before he (fun q => listed.getD q false = true) (fun q o' ho' hq e he' hb => hcl q o' ho' hq e he' hb) (fun o' ho' e he' hb => by rw [ho] at ho'; injection ho' with ho'; subst ho'; exact hall e he' hb)
theorem drawOkL_at {k i : Nat} (h : drawOkL ops k = true) {o : Oper} (ho : ops[i]? = some o) : (∀ e ∈ o.after, Region.binds .any e = true → e.on < i) ∧ (k ≤ i → ∀ j, j < i → edgeT ops i j = true ∨ (j < k ∧ late ops j = true ∧ ∀ o' d, ops[j]? = some o' → o'.dst = some d → d ∉ o.looksAt ops ∧ o.dst ≠ some d)) ∧
    (i < k → ∀ j o' d, ops[j]? = some o' → j ≠ i → o'.dst = some d → o.dst ≠ some d ∧ (d ∈ o.looksAt ops → (j < i → edgeT ops i j = true) ∧ (i < j → edgeT ops j i = true))) := by
  have hlt : i < ops.size := (Array.getElem?_eq_some_iff.1 ho).1
  unfold drawOkL at h
  have h1 := List.all_eq_true.1 h i (List.mem_range.2 hlt)
  rw [ho] at h1
  simp only [Bool.and_eq_true] at h1
  obtain ⟨ha, hb⟩ := h1
  refine ⟨fun e he hbe => ?_, fun hk j hj => ?_, fun hk j o' d hj hne hd => ?_⟩
  · have := (Array.all_eq_true_iff_forall_mem.1 ha) e he
    simpa [hbe] using this
  · rw [if_pos hk] at hb
    have h2 := List.all_eq_true.1 hb j (List.mem_range.2 hj)
    simp only [Bool.or_eq_true, Bool.and_eq_true, decide_eq_true_eq] at h2
    rcases h2 with h2 | ⟨⟨h3, h4⟩, h5⟩
    · exact .inl h2
    · refine .inr ⟨h3, h4, fun o' d ho' hd => ?_⟩
      rw [ho'] at h5
      simp only [Option.bind_some, hd, Bool.and_eq_true, Bool.not_eq_true', bne_iff_ne, ne_eq] at h5
      refine ⟨fun hm => ?_, h5.2⟩
      have : (o.looksAt ops).contains d = true := by simpa using hm
      rw [this] at h5; exact absurd h5.1 (by simp)
  · rw [if_neg (by omega)] at hb
    have hjl : j < ops.size := (Array.getElem?_eq_some_iff.1 hj).1
    have h2 := List.all_eq_true.1 hb j (List.mem_range.2 hjl)
    rw [hj] at h2
    simp only [Option.bind_some, hd, Bool.or_eq_true, beq_iff_eq, hne, false_or, Bool.and_eq_true, bne_iff_ne, ne_eq, Bool.not_eq_true'] at h2
    refine ⟨h2.1, fun hm => ?_⟩
    rcases h2.2 with h3 | h3
    · have : (o.looksAt ops).contains d = true := by simpa using hm
      rw [this] at h3; cases h3
    · exact ⟨fun hlt => by rw [if_pos hlt] at h3; exact h3, fun hlt => by rw [if_neg (by omega)] at h3; exact h3⟩
theorem late_at {j : Nat} (h : late ops j = true) : ∃ o d, ops[j]? = some o ∧ o.guard = none ∧ slotOp o.op = true ∧ o.dst = some d ∧ ∀ i o' d', j ≤ i → ops[i]? = some o' → o'.dst = some d' → d' ∉ o.looksAt ops := by
  unfold late at h
  split at h
  · rename_i o ho
    simp only [Bool.and_eq_true, Option.isNone_iff_eq_none] at h
    obtain ⟨⟨⟨h1, h2⟩, h3⟩, h4⟩ := h
    obtain ⟨d, hd⟩ := Option.isSome_iff_exists.1 h3
    refine ⟨o, d, ho, h1, h2, hd, fun i o' d' hi ho' hd' hm => ?_⟩
    have := List.all_eq_true.1 h4 i (List.mem_range.2 (Array.getElem?_eq_some_iff.1 ho').1)
    rw [ho'] at this
    simp only [Option.bind_some, hd', Bool.or_eq_true, decide_eq_true_eq, Bool.not_eq_true'] at this
    rcases this with h5 | h5
    · omega
    · have : (o.looksAt ops).contains d' = true := by simpa using hm
      rw [this] at h5; cases h5
  · cases h
theorem all_listedL {k : Nat} (h : drawOkL ops k = true) {listed : Array Bool} (hr : Region.ready .any ops listed = []) (hsz : listed.size = ops.size) : ∀ i, i < ops.size → listed.getD i false = true := by
  intro i
  induction i using Nat.strongRecOn with
  | _ i ih =>
    intro hi
    cases hl : listed.getD i false with
    | true => rfl
    | false =>
      have ho : ops[i]? = some ops[i] := Array.getElem?_eq_getElem hi
      have : i ∈ Region.ready .any ops listed := mem_ready.2 ⟨by
        have hlt : i < listed.size := by omega
        simp [hlt] at hl ⊢; exact hl, _, ho, fun e he hb => ih e.on ((drawOkL_at h ho).1 e he hb) (by have := (drawOkL_at h ho).1 e he hb; omega)⟩
      rw [hr] at this; cases this
theorem open_iff {k : Nat} {listed : Array Bool} {t : Nat} : open_ ops k listed t = true ↔ ∃ j o, j < k ∧ listed.getD j false = false ∧ ops[j]? = some o ∧ o.dst = some t := by
  unfold open_
  rw [List.any_eq_true]
  constructor
  · rintro ⟨j, hj, hb⟩
    rw [Bool.and_eq_true] at hb
    have hd := eq_of_beq hb.2
    cases ho : ops[j]? with
    | none => rw [ho] at hd; cases hd
    | some o =>
      rw [ho] at hd
      exact ⟨j, o, List.mem_range.1 hj, by simpa using hb.1, ho, hd⟩
  · rintro ⟨j, o, hj, hl, ho, hd⟩
    exact ⟨j, List.mem_range.2 hj, by rw [Bool.and_eq_true]; exact ⟨by simp [hl], by simp [ho, hd]⟩⟩
theorem sim_of_E {st : St} {E : Nat → Option AV} {a : Act} {w : World} (hE : ∀ t x, st.E t = some x → E t = some x) (hs : SimE F E st.hp st.nx a w) : Sim F st a w := by
  obtain ⟨hd, htn, S, m, hm, h⟩ := hs
  exact ⟨hd, htn, S, m, hm, fun t x hx => h t x (hE t x hx)⟩
/-- What is late has its value in the state already, and nobody that comes changes what it looks at. -/
def Late (P : Program) (ops : Array Oper) (k : Nat) (listed : Array Bool) (st : St) : Prop := ∀ j o d, j < k → listed.getD j false = false → ops[j]? = some o → o.dst = some d → late ops j = true ∧ ∃ x, aPure P (aEv st.E) st.hp o.op = some x ∧ st.E d = some x
theorem tail_late (hn : F.n = n) {k : Nat} (hk : drawOkL ops k = true) (hkd : ∀ j o, j < k → ops[j]? = some o → dstOk n o.dst) {K : St → Prop} {Q : Exit → Act → World → Prop} (hQ : ∀ st' a' w', K st' → Sim F st' a' w' → Q .normal a' w') :
    ∀ (fuel : Nat) (l : List Oper) (i : Nat) (listed : Array Bool) {st : St} {a : Act} {w : World}, k ≤ i → l = ops.toList.drop i → i ≤ ops.size → cnt listed = fuel → listed.size = ops.size → (∀ j, k ≤ j → listed.getD j false = decide (j < i)) →
      (∀ j, j < k → j < ops.size → late ops j = false → listed.getD j false = true) → (∀ i o, ops[i]? = some o → listed.getD i false = true → ∀ e ∈ o.after, Region.binds .any e = true → listed.getD e.on false = true) → Late P ops k listed st → aOps P n ops l K st → Sim F (less ops k listed st) a w → wpAny P .any ops Q fuel listed a w := by
  intro fuel
  induction fuel with
  | zero =>
    intro l i listed st a w hki hl hil hc hsz hli hnl hcl hJ h hs
    have hall : ∀ j, j < ops.size → listed.getD j false = true := fun j hj => cnt_zero hc j (by omega)
    have hi : i = ops.size := by
      rcases Nat.lt_or_ge i ops.size with h1 | h1
      · have := hall i h1; rw [hli i hki] at this; simp at this
      · omega
    subst hi
    have hr : Region.ready .any ops listed = [] := by
      cases hr : Region.ready .any ops listed with
      | nil => rfl
      | cons j js =>
        have hm : j ∈ Region.ready .any ops listed := by rw [hr]; simp
        obtain ⟨h1, o, ho, _⟩ := mem_ready.1 hm
        have := getD_both' (hall j (Array.getElem?_eq_some_iff.1 ho).1)
        rw [this] at h1; cases h1
    have hl0 : l = [] := by rw [hl]; exact List.drop_eq_nil_iff.2 (by simp)
    subst hl0
    refine wpAny_done hr (hQ _ _ _ h ?_) 0
    refine sim_of_E (fun t x hx => ?_) hs
    rw [less_E, if_neg]
    · exact hx
    · intro ho
      obtain ⟨j, o, _, h2, h3, _⟩ := open_iff.1 ho
      rw [hall j (Array.getElem?_eq_some_iff.1 h3).1] at h2; cases h2
  | succ fuel ih =>
    intro l i listed st a w hki hl hil hc hsz hli hnl hcl hJ h hs
    refine ⟨fun h0 => ?_, fun r hr => ?_⟩
    · have hall := all_listedL hk h0 hsz
      have : cnt listed = 0 := by
        unfold cnt
        refine List.countP_eq_zero.2 fun b hb => ?_
        obtain ⟨j, hj⟩ := List.getElem?_of_mem hb
        have hlt : j < listed.size := by simpa using (List.getElem?_eq_some_iff.1 hj).1
        have h1 := hall j (by omega)
        have h2 : listed[j] = b := by
          have := (List.getElem?_eq_some_iff.1 hj).2
          simpa using this
        simp [hlt, h2] at h1; simp [h1]
      omega
    · obtain ⟨hun, o, ho, hafter⟩ := mem_ready.1 hr
      have hrsz : r < ops.size := (Array.getElem?_eq_some_iff.1 ho).1
      have hunf : listed.getD r false = false := by
        have hlt : r < listed.size := by omega
        simp [hlt] at hun ⊢; exact hun
      have hcs := cnt_set (l := listed) (i := r) (by omega) hun
      have keep : ∀ q, listed.getD q false = true → (listed.setIfInBounds r true).getD q false = true := fun q hq => getD_set_true hq
      have hrset : (listed.setIfInBounds r true).getD r false = true := by
        have hlt : r < listed.size := by omega
        simp [hlt]
      have hcl' : ∀ i o, ops[i]? = some o → (listed.setIfInBounds r true).getD i false = true → ∀ e ∈ o.after, Region.binds .any e = true → (listed.setIfInBounds r true).getD e.on false = true := fun j o' hj hl' e he hb => by
        by_cases hji : j = r
        · subst hji
          rw [ho] at hj; injection hj with hj; subst hj
          exact keep _ (hafter e he hb)
        · refine keep _ (hcl j o' hj ?_ e he hb)
          rw [getD_set_ne false (Ne.symm hji)] at hl'; exact hl'
      by_cases hrk : r < k
      · -- it comes late
        obtain ⟨d, hd⟩ : ∃ d, o.dst = some d := by
          cases hlt : late ops r with
          | true => obtain ⟨o', d, ho', _, _, hd, _⟩ := late_at hlt; rw [ho] at ho'; injection ho' with ho'; subst ho'; exact ⟨d, hd⟩
          | false => rw [hnl r hrk hrsz hlt] at hunf; cases hunf
        obtain ⟨hlate, x, hx, hxE⟩ := hJ r o d hrk hunf ho hd
        obtain ⟨o', d', ho', hg, hslot, hd', hlook⟩ := late_at hlate
        rw [ho] at ho'; injection ho' with ho'; subst ho'
        -- what it looks at is there
        have hnot : ∀ t ∈ o.looksAt ops, open_ ops k listed t = false := fun t ht => by
          cases hop : open_ ops k listed t with
          | false => rfl
          | true =>
            obtain ⟨j, oj, hj, hjl, hjo, hjd⟩ := open_iff.1 hop
            rcases Nat.lt_or_ge j r with h1 | h1
            · have := ((drawOkL_at hk ho).2.2 hrk j oj t hjo (by omega) hjd).2 ht
              rw [edgeT_ready hcl hr (this.1 h1)] at hjl; cases hjl
            · exact absurd ht (hlook j oj t h1 hjo hjd)
        have hev : ∀ o' ∈ o.op.operands.toList, aEv (less ops k listed st).E o' = aEv st.E o' :=
          ev_congr (fun t ht => by rw [less_E, if_neg (by rw [hnot t (List.mem_append_left _ ht)]; simp)])
        have hx' : aPure P (aEv (less ops k listed st).E) (less ops k listed st).hp o.op = some x := by
          rw [pure_congr o.op hev]; exact hx
        have hop : aOp P n o (fun s => s = (less ops k listed st).put o.dst x) (fun s => s = (less ops k listed st).put o.dst x) (less ops k listed st) := by
          refine .inl ?_; unfold aOp0; rw [hx']; exact ⟨hkd r o hrk ho, rfl⟩
        unfold wpOp
        rw [ho]
        simp only
        rw [if_pos (by simp [Region.wanted, hg])]
        refine .inl (aOp_sound hn hop hs (fun s a' w' he hs' => ?_))
        subst he
        refine ih l i (listed.setIfInBounds r true) hki hl hil (by omega) (by simpa using hsz) (fun j hj => by rw [getD_set_ne false (by omega)]; exact hli j hj) (fun j hj hjs hjl => keep j (hnl j hj hjs hjl)) hcl' (fun j oj dj hj hjl hjo hjd => ?_) h ?_
        · have hjr : j ≠ r := fun e => by rw [e, hrset] at hjl; cases hjl
          rw [getD_set_ne false (Ne.symm hjr)] at hjl
          exact hJ j oj dj hj hjl hjo hjd
        · have e1 : ((less ops k listed st).put o.dst x).hp = st.hp := by rw [hd]; rfl
          have e2 : ((less ops k listed st).put o.dst x).nx = st.nx := by rw [hd]; rfl
          unfold Sim at hs' ⊢
          rw [e1, e2, put_E] at hs'
          refine sim_of_E (st := less ops k (listed.setIfInBounds r true) st) (fun t y hy => ?_) hs'
          rw [less_E] at hy
          split at hy
          · cases hy
          · rename_i hno
            unfold updE
            by_cases htd : o.dst = some t
            · rw [if_pos htd]
              rw [hd] at htd; injection htd with htd; subst htd
              rw [hxE] at hy; exact hy
            · rw [if_neg htd, less_E, if_neg]
              · exact hy
              · intro hop
                obtain ⟨j, oj, hj, hjl, hjo, hjd⟩ := open_iff.1 hop
                refine hno (open_iff.2 ⟨j, oj, hj, ?_, hjo, hjd⟩)
                have hjr : j ≠ r := fun e => by subst e; rw [ho] at hjo; injection hjo with hjo; subst hjo; exact htd hjd
                rw [getD_set_ne false (Ne.symm hjr)]; exact hjl
      · -- the tail's next one
        have hri : r = i := by
          have h1 : ¬ r < i := fun hh => by rw [hli r (by omega)] at hunf; simp [hh] at hunf
          rcases Nat.lt_or_ge i r with h2 | h2
          · rcases (drawOkL_at hk ho).2.1 (by omega) i h2 with h3 | ⟨h3, _⟩
            · have := edgeT_ready hcl hr h3; rw [hli i hki] at this; simp at this
            · omega
          · omega
        subst hri
        have hl' : l = o :: ops.toList.drop (r + 1) := by
          rw [hl]
          have hlt : r < ops.toList.length := by simpa using hrsz
          rw [List.drop_eq_getElem_cons hlt]
          have := (Array.getElem?_eq_some_iff.1 ho).2
          simp [this]
        subst hl'
        have hfree : ∀ j oj d, j < k → listed.getD j false = false → ops[j]? = some oj → oj.dst = some d → d ∉ o.looksAt ops ∧ o.dst ≠ some d := fun j oj d hj hjl hjo hjd => by
          rcases (drawOkL_at hk ho).2.1 hki j (by omega) with h1 | ⟨_, _, h1⟩
          · rw [edgeT_ready hcl hr h1] at hjl; cases hjl
          · exact h1 oj d hjo hjd
        have hnot : ∀ t ∈ o.looksAt ops, open_ ops k listed t = false := fun t ht => by
          cases hop : open_ ops k listed t with
          | false => rfl
          | true =>
            obtain ⟨j, oj, hj, hjl, hjo, hjd⟩ := open_iff.1 hop
            exact absurd ht (hfree j oj t hj hjl hjo hjd).1
        have hev : ∀ o' ∈ o.op.operands.toList, aEv (less ops k listed st).E o' = aEv st.E o' :=
          ev_congr (fun t ht => by rw [less_E, if_neg (by rw [hnot t (List.mem_append_left _ ht)]; simp)])
        -- behind it
        have next : ∀ (x : AV) (hp : List (Nat × Blk)) (nx : Nat), aOps P n ops (ops.toList.drop (r + 1)) K ((St.mk st.env hp nx).put o.dst x) → ∀ a' w', Sim F ((St.mk (less ops k listed st).env hp nx).put o.dst x) a' w' → wpAny P .any ops Q fuel (listed.setIfInBounds r true) a' w' := fun x hp nx hh a' w' hs' => by
          have e1 : ∀ s : St, (s.put o.dst x).hp = s.hp := fun s => by cases o.dst <;> rfl
          have e2 : ∀ s : St, (s.put o.dst x).nx = s.nx := fun s => by cases o.dst <;> rfl
          have hopen : ∀ t, open_ ops k (listed.setIfInBounds r true) t = true ↔ open_ ops k listed t = true := fun t => by
            rw [open_iff, open_iff]
            constructor
            · rintro ⟨j, oj, hj, hjl, hjo, hjd⟩
              exact ⟨j, oj, hj, by rw [getD_set_ne false (by omega)] at hjl; exact hjl, hjo, hjd⟩
            · rintro ⟨j, oj, hj, hjl, hjo, hjd⟩
              exact ⟨j, oj, hj, by rw [getD_set_ne false (by omega)]; exact hjl, hjo, hjd⟩
          refine ih _ (r + 1) (listed.setIfInBounds r true) (by omega) rfl (by omega) (by omega) (by simpa using hsz) (fun j hj => ?_) (fun j hj hjs hjl => keep j (hnl j hj hjs hjl)) hcl' (fun j oj d hj hjl hjo hjd => ?_) hh ?_
          · by_cases hjr : j = r
            · subst hjr; rw [hrset]; symm; exact decide_eq_true (by omega)
            · rw [getD_set_ne false (Ne.symm hjr), hli j hj]; simp only [decide_eq_decide]; omega
          · rw [getD_set_ne false (by omega)] at hjl
            obtain ⟨h1, y, h2, h3⟩ := hJ j oj d hj hjl hjo hjd
            obtain ⟨oj', d', hjo', _, hslot, _, hlook⟩ := late_at h1
            rw [hjo] at hjo'; injection hjo' with hjo'; subst hjo'
            have hne := (hfree j oj d hj hjl hjo hjd).2
            refine ⟨h1, y, ?_, ?_⟩
            · rw [e1]
              have hev' : ∀ o' ∈ oj.op.operands.toList, aEv ((St.mk st.env hp nx).put o.dst x).E o' = aEv st.E o' := ev_congr (fun t ht => by
                rw [put_E]; unfold updE
                rw [if_neg (fun e => hlook r o t (by omega) ho e (List.mem_append_left _ ht))]; rfl)
              rw [pure_congr oj.op hev', aVal_slot (hp' := st.hp) hslot]; exact h2
            · rw [put_E]; unfold updE; rw [if_neg hne]; exact h3
          · unfold Sim at hs' ⊢
            rw [e1, e2, put_E] at hs'
            have e3 : (less ops k (listed.setIfInBounds r true) ((St.mk st.env hp nx).put o.dst x)).hp = hp := e1 _
            have e4 : (less ops k (listed.setIfInBounds r true) ((St.mk st.env hp nx).put o.dst x)).nx = nx := e2 _
            have := sim_of_E (F := F) (st := less ops k (listed.setIfInBounds r true) ((St.mk st.env hp nx).put o.dst x)) (E := updE (St.mk (less ops k listed st).env hp nx).E o.dst x) (a := a') (w := w') (fun t y hy => by
              rw [less_E, put_E] at hy
              unfold updE at hy ⊢
              split at hy
              · cases hy
              · rename_i hno
                split at hy
                · rename_i htd; rw [if_pos htd]; exact hy
                · rename_i htd; rw [if_neg htd]
                  have := less_E ops k listed st t
                  rw [if_neg (fun h => hno ((hopen t).2 h))] at this
                  exact this.trans hy) (by rw [e3, e4]; exact hs')
            exact this
        unfold wpOp
        rw [ho]
        simp only
        unfold aOps at h
        split at h
        · rename_i hg
          rw [if_pos (by simp [Region.wanted, hg])]
          have h2 := aOp_congr (K' := fun s => ∃ x hp nx, aOps P n ops (ops.toList.drop (r + 1)) K ((St.mk st.env hp nx).put o.dst x) ∧ s = (St.mk (less ops k listed st).env hp nx).put o.dst x) hev rfl rfl (fun x hp nx hh => ⟨x, hp, nx, hh, rfl⟩) h
          exact .inl (aOp_sound hn h2 hs (fun s a' w' ⟨x, hp, nx, hh, he⟩ hs' => by subst he; exact next x hp nx hh a' w' hs'))
        · rename_i g want hg
          split at h
          · rename_i b hb
            have hgd : (((ops[g]?).bind (·.dst)).bind (less ops k listed st).E) = (((ops[g]?).bind (·.dst)).bind st.E) := by
              cases hgt : (ops[g]?).bind (·.dst) with
              | none => rfl
              | some t =>
                show (less ops k listed st).E t = st.E t
                rw [less_E, if_neg]
                rw [hnot t (List.mem_append_right _ (by rw [hg]; simp only [hgt]; simp))]; simp
            have hs0 := hs
            obtain ⟨hdf, htn, S, m, hm, hE⟩ := hs
            have hy := yielded_E htn hE (by rw [hgd]; exact hb)
            by_cases hbw : b = some want
            · rw [if_pos (by simp [Region.wanted, hg, hy, hbw])]
              rw [if_pos hbw] at h
              have h2 := aOp_congr (K' := fun s => ∃ x hp nx, aOps P n ops (ops.toList.drop (r + 1)) K ((St.mk st.env hp nx).put o.dst x) ∧ s = (St.mk (less ops k listed st).env hp nx).put o.dst x) hev rfl rfl (fun x hp nx hh => ⟨x, hp, nx, hh, rfl⟩) h
              exact .inl (aOp_sound hn h2 hs0 (fun s a' w' ⟨x, hp, nx, hh, he⟩ hs' => by subst he; exact next x hp nx hh a' w' hs'))
            · rw [if_neg (by simp [Region.wanted, hg, hy, hbw])]
              rw [if_neg hbw] at h
              obtain ⟨hdo, hk'⟩ := h
              exact next _ st.hp st.nx hk' _ _ (Sim.put (st := less ops k listed st) (hp := st.hp) (nx := st.nx) hdf htn hE (fun x u hx => hx) hm (.s _) (by rw [hn]; exact hdo))
          · exact h.elim
end
end Go.Proofs.YtdfokoapenhalaaDoor.Ab
end
section
namespace Go.Proofs.YtdfokoapenhalaaDoor.Ab
open Go Go.RowKit Go.Shelf
section
variable {P : Program} {n : Nat} {F : Fr} {ops : Array Oper}
theorem evals_slot {E : Nat → Option AV} {hp : List (Nat × Blk)} {nx : Nat} {o : Oper} {x : AV} (hs : slotOp o.op = true) (h : EvalsTo P (aEv E) hp nx o x) : aPure P (aEv E) hp o.op = some x := by
  unfold EvalsTo at h
  split at h
  · rename_i y hy; rw [hy, h]
  · split at h
    · rename_i e; rw [e] at hs; simp [slotOp] at hs
    · rename_i e; rw [e] at hs; simp [slotOp] at hs
    · exact h.elim
theorem aDraw_soundL (hn : F.n = n) {id : Nat} {K : St → Prop} {st : St} {a : Act} {w : World} {Q : Exit → Act → World → Prop} (h : P.follows .mixedOrders = true ∧ ∃ k, drawOkL ops k = true ∧ aHead P n ops (ops.toList.take k) (fun st => aOps P n ops (ops.toList.drop k) K st) st) (hs : Sim F st a w) (hQ : ∀ st' a' w', K st' → Sim F st' a' w' → Q .normal a' w') :
    (Code.region id ops true).wp P Q a w := by
  obtain ⟨hmix, k0, hk0, hh0⟩ := h
  -- no more than there are
  obtain ⟨k, hk, hh, hks⟩ : ∃ k, drawOkL ops k = true ∧ aHead P n ops (ops.toList.take k) (fun st => aOps P n ops (ops.toList.drop k) K st) st ∧ k ≤ ops.size := by
    by_cases hle : k0 ≤ ops.size
    · exact ⟨k0, hk0, hh0, hle⟩
    · refine ⟨ops.size, ?_, ?_, Nat.le_refl _⟩
      · unfold drawOkL at hk0 ⊢
        refine List.all_eq_true.2 fun i hi => ?_
        have h1 := List.all_eq_true.1 hk0 i hi
        have hi' := List.mem_range.1 hi
        cases ho : ops[i]? with
        | none => rw [ho] at h1; exact h1
        | some o =>
          rw [ho] at h1
          simp only at h1 ⊢
          rw [if_neg (by omega)] at h1 ⊢
          exact h1
      · have e1 : ops.toList.take k0 = ops.toList.take ops.size := by rw [List.take_of_length_le (by simp; omega), List.take_of_length_le (by simp)]
        have e2 : ops.toList.drop k0 = ops.toList.drop ops.size := by rw [List.drop_eq_nil_of_le (by simp; omega), List.drop_eq_nil_of_le (by simp)]
        rw [← e1, ← e2]; exact hh0
  refine wp_region_any hmix ?_
  obtain ⟨xs, st', hxl, hv, htail, he1, he2, hfull⟩ := head_vals _ hh
  have hget : ∀ i, i < k → (ops.toList.take k)[i]? = ops[i]? := fun i hi => by rw [List.getElem?_take, if_pos hi]; simp
  have hgo : ∀ i o, (ops.toList.take k)[i]? = some o → i < k ∧ ops[i]? = some o := fun i o ho => by
    have hi : i < k := by
      rw [List.getElem?_take] at ho
      split at ho
      · assumption
      · cases ho
    exact ⟨hi, by rw [← hget i hi]; exact ho⟩
  have hkd : ∀ j o, j < k → ops[j]? = some o → dstOk n o.dst := fun j o hj ho => by
    obtain ⟨x, _, hst⟩ := head_at _ _ _ 0 hv j o (by rw [hget j hj]; exact ho)
    exact hst.1
  have main : ∀ (fuel : Nat) (listed : Array Bool) (a : Act) (w : World), cnt listed = fuel → listed.size = ops.size → (∀ i o, ops[i]? = some o → listed.getD i false = true → ∀ e ∈ o.after, Region.binds .any e = true → listed.getD e.on false = true) →
      (∀ i, k ≤ i → listed.getD i false = false) → SimE F (EL (fun j => listed.getD j false) st.E 0 (ops.toList.take k) xs) st.hp st.nx a w → wpAny P .any ops Q fuel listed a w := by
    have toTail : ∀ (fuel : Nat) (listed : Array Bool) (a : Act) (w : World), cnt listed = fuel → listed.size = ops.size → (∀ i o, ops[i]? = some o → listed.getD i false = true → ∀ e ∈ o.after, Region.binds .any e = true → listed.getD e.on false = true) → (∀ i, k ≤ i → listed.getD i false = false) → (∀ j, j < k → j < ops.size → late ops j = false → listed.getD j false = true) →
        SimE F (EL (fun j => listed.getD j false) st.E 0 (ops.toList.take k) xs) st.hp st.nx a w → wpAny P .any ops Q fuel listed a w := by
      intro fuel listed a w hc hsz hcl htl hnl hs
      have hful := hfull (fun _ => true) (fun _ => rfl) 0
      refine tail_late hn hk hkd hQ fuel (ops.toList.drop k) k listed (st := st') (Nat.le_refl _) rfl hks hc hsz (fun j hj => by rw [htl j hj]; symm; exact decide_eq_false (by omega)) hnl hcl (fun j o d hj hjl ho hd => ?_) htail ?_
      · have hlt : late ops j = true := by
          cases hl : late ops j with
          | true => rfl
          | false => rw [hnl j hj (Array.getElem?_eq_some_iff.1 ho).1 hl] at hjl; cases hjl
        obtain ⟨o', d', ho', hg, hslot, hd', hlook⟩ := late_at hlt
        rw [ho] at ho'; injection ho' with ho'; subst ho'
        obtain ⟨x, hx, hst⟩ := head_at _ _ _ 0 hv j o (by rw [hget j hj]; exact ho)
        have hst2 := hst.2
        rw [hg] at hst2
        have hval := evals_slot hslot hst2
        refine ⟨hlt, x, ?_, ?_⟩
        · have hev : ∀ o' ∈ o.op.operands.toList, aEv st'.E o' = aEv (EL (fun i => decide (i < 0 + j)) st.E 0 (ops.toList.take k) xs) o' := ev_congr (fun t ht => by
            rw [hful]
            refine EL_congr _ _ t _ _ _ _ 0 rfl (fun i oi hi hdi => ?_)
            obtain ⟨_, hi'⟩ := hgo i oi hi
            rcases Nat.lt_or_ge i j with h1 | h1
            · symm; simp only [Nat.zero_add]; exact decide_eq_true h1
            · exact absurd (List.mem_append_left _ ht) (hlook i oi t h1 hi' hdi))
          rw [pure_congr o.op hev, aVal_slot (hp' := st.hp) hslot]; exact hval
        · rw [hful]
          exact EL_hit _ d _ _ _ 0 j o x (by rw [hget j hj]; exact ho) hx hd rfl (fun i oi hi hij hdi => by
            obtain ⟨_, hi'⟩ := hgo i oi hi
            exact ((drawOkL_at hk ho).2.2 hj i oi d hi' hij hdi).1 hd)
      · rw [← he1, ← he2] at hs
        refine sim_of_E (st := less ops k listed st') (fun t y hy => ?_) hs
        rw [less_E] at hy
        split at hy
        · cases hy
        · rename_i hno
          rw [← hy, hful]
          refine EL_congr _ _ t _ _ _ _ 0 rfl (fun i oi hi hdi => ?_)
          obtain ⟨hik, hi'⟩ := hgo i oi hi
          simp only [Nat.zero_add]
          cases hl : listed.getD i false with
          | true => rfl
          | false => exact absurd (open_iff.2 ⟨i, oi, hik, hl, hi', hdi⟩) hno
    intro fuel
    induction fuel with
    | zero =>
      intro listed a w hc hsz hcl htl hs
      exact toTail 0 listed a w hc hsz hcl htl (fun j _ hj _ => cnt_zero hc j (by omega)) hs
    | succ fuel ih =>
      intro listed a w hc hsz hcl htl hs
      by_cases hhead : ∀ j, j < k → j < ops.size → late ops j = false → listed.getD j false = true
      · exact toTail _ listed a w hc hsz hcl htl hhead hs
      · refine ⟨fun h0 => ?_, fun i hi => ?_⟩
        · exact absurd (fun j _ hj _ => all_listedL hk h0 hsz j hj) hhead
        · obtain ⟨hun, o, ho, hafter⟩ := mem_ready.1 hi
          have hisz : i < ops.size := (Array.getElem?_eq_some_iff.1 ho).1
          have hunf : listed.getD i false = false := by
            have hlt : i < listed.size := by omega
            simp [hlt] at hun ⊢; exact hun
          have hik : i < k := by
            rcases Nat.lt_or_ge i k with h1 | h1
            · exact h1
            · refine absurd (fun j hj hjs hjl => ?_) hhead
              rcases (drawOkL_at hk ho).2.1 h1 j (by omega) with h2 | ⟨_, h2, _⟩
              · exact edgeT_ready hcl hi h2
              · rw [h2] at hjl; cases hjl
          obtain ⟨x, hx, hst⟩ := head_at _ _ _ 0 hv i o (by rw [hget i hik]; exact ho)
          have hst' : StepV P n ops st.hp st.nx (EL (fun j => listed.getD j false) st.E 0 (ops.toList.take k) xs) o x := by
            refine step_congr (fun t ht => ?_) hst
            refine EL_congr _ _ t _ _ _ _ 0 rfl (fun j o' hj hd => ?_)
            obtain ⟨hjk, hj'⟩ := hgo j o' hj
            simp only [Nat.zero_add]
            by_cases hji : j = i
            · subst hji; rw [hunf]; simp
            · obtain ⟨_, h2⟩ := (drawOkL_at hk ho).2.2 hik j o' t hj' hji hd
              obtain ⟨h3, h4⟩ := h2 ht
              rcases Nat.lt_or_gt_of_ne hji with h5 | h5
              · rw [edgeT_ready hcl hi (h3 h5)]; symm; exact decide_eq_true h5
              · have hnl : listed.getD j false = false := by
                  cases hl : listed.getD j false with
                  | false => rfl
                  | true =>
                    have := edgeT_before (h4 h5) (fun q => listed.getD q false = true) (fun q o'' ho'' hq e he' hb => hcl q o'' ho'' hq e he' hb) (fun o'' ho'' e he' hb => hcl j o'' ho'' hl e he' hb)
                    rw [hunf] at this; cases this
                rw [hnl]; symm; exact decide_eq_false (by omega)
          refine stepV_sound hn ho hst' hs (fun a' w' hs' => ?_)
          have hcs := cnt_set (l := listed) (i := i) (by omega) hun
          refine ih (listed.setIfInBounds i true) a' w' (by omega) (by simpa using hsz) (fun j o' hj hl e he hb => ?_) (fun j hj => ?_) ?_
          · have keep : ∀ q, listed.getD q false = true → (listed.setIfInBounds i true).getD q false = true := fun q hq => getD_set_true hq
            by_cases hji : j = i
            · subst hji
              rw [ho] at hj; injection hj with hj; subst hj
              exact keep _ (hafter e he hb)
            · refine keep _ (hcl j o' hj ?_ e he hb)
              rw [getD_set_ne false (Ne.symm hji)] at hl; exact hl
          · rw [getD_set_ne false (by omega)]; exact htl j hj
          · have : EL (fun j => (listed.setIfInBounds i true).getD j false) st.E 0 (ops.toList.take k) xs = updE (EL (fun j => listed.getD j false) st.E 0 (ops.toList.take k) xs) o.dst x := by
              funext t
              unfold updE
              by_cases hd : o.dst = some t
              · rw [if_pos hd]
                refine EL_hit _ t _ _ _ 0 i o x (by rw [hget i hik]; exact ho) hx hd ?_ (fun j o' hj hji hd' => ?_)
                · have hlt : i < listed.size := by omega
                  simp [hlt]
                · obtain ⟨_, hj'⟩ := hgo j o' hj
                  exact ((drawOkL_at hk ho).2.2 hik j o' t hj' hji hd').1 hd
              · rw [if_neg hd]
                refine EL_congr _ _ t _ _ _ _ 0 rfl (fun j o' hj hd' => ?_)
                obtain ⟨hjk, hj'⟩ := hgo j o' hj
                simp only [Nat.zero_add]
                by_cases hji : j = i
                · subst hji; rw [ho] at hj'; injection hj' with hj'; subst hj'; exact absurd hd' hd
                · exact getD_set_ne false (Ne.symm hji)
            rw [this]; exact hs'
  have hs0 : SimE F st.E st.hp st.nx a w.drew := by
    obtain ⟨hd, htn, S, m, hm, hE⟩ := hs
    exact ⟨hd, htn, S, m, hm.below (below_drew w), fun t x h => ⟨(hE t x h).1, (hE t x h).2.belowW (below_drew w)⟩⟩
  have hrep : ∀ j, (Array.replicate ops.size false).getD j false = false := fun j => by
    rcases Nat.lt_or_ge j ops.size with h1 | h1
    · simp [h1]
    · simp [Array.getElem?_eq_none (by simpa using h1 : (Array.replicate ops.size false).size ≤ j)]
  refine main ops.size (Array.replicate ops.size false) a w.drew ?_ (by simp) (fun i o ho hl => by rw [hrep] at hl; cases hl) (fun i _ => hrep i) ?_
  · unfold cnt
    rw [Array.toList_replicate, List.countP_replicate]; simp
  · have : EL (fun j => (Array.replicate ops.size false).getD j false) st.E 0 (ops.toList.take k) xs = st.E := funext fun t => EL_none _ t _ _ _ 0 (fun i o _ _ => hrep _)
    rw [this]; exact hs0
end
end Go.Proofs.YtdfokoapenhalaaDoor.Ab
end
section
namespace Go.Proofs.YtdfokoapenhalaaDoor.Ab
open Go Go.RowKit Go.Shelf
section
variable {P : Program} {n : Nat} {F : Fr} {ops : Array Oper} {hp : List (Nat × Blk)} {nx : Nat}
theorem drawE_L {k e : Nat} (h : drawOkE ops k e = true) : drawOkL ops (k + e) = true := by
  unfold drawOkE at h
  unfold drawOkL
  simp only [Bool.and_eq_true] at h
  refine List.all_eq_true.2 fun i hi => ?_
  have h1 := List.all_eq_true.1 h.2 i hi
  have hil := List.mem_range.1 hi
  cases ho : ops[i]? with
  | none => rw [ho] at h1; exact h1
  | some o =>
    rw [ho] at h1
    simp only [Bool.and_eq_true] at h1 ⊢
    refine ⟨h1.1, ?_⟩
    by_cases hik : i < k
    · have h2 := h1.2
      rw [if_pos hik] at h2
      rw [if_neg (by omega)]
      refine List.all_eq_true.2 fun j hj => ?_
      have h3 := List.all_eq_true.1 h2 j hj
      cases hd : (ops[j]?).bind (·.dst) with
      | none => simp
      | some d =>
        rw [hd] at h3
        simp only [Bool.or_eq_true, Bool.and_eq_true] at h3 ⊢
        rcases h3 with h3 | ⟨h4, h5⟩
        · exact .inl h3
        · exact .inr ⟨h4, h5.imp id (fun h6 => h6.2)⟩
    · have h2 := h1.2
      rw [if_neg hik] at h2
      by_cases hie : i < k + e
      · rw [if_pos hie] at h2
        rw [if_neg (by omega)]
        simp only [Bool.and_eq_true] at h2
        have hal := h2.1
        unfold isAlloc at hal
        rw [ho] at hal
        simp only [Bool.and_eq_true, Option.isNone_iff_eq_none] at hal
        obtain ⟨⟨hg, _⟩, hop⟩ := hal
        have hlook : o.looksAt ops = [] := by
          unfold Oper.looksAt
          rw [hg]
          cases hq : o.op with
          | alloc t => rfl
          | _ => rw [hq] at hop; simp at hop
        refine List.all_eq_true.2 fun j hj => ?_
        have h3 := List.all_eq_true.1 h2.2 j hj
        cases hd : (ops[j]?).bind (·.dst) with
        | none => simp
        | some d =>
          rw [hd] at h3
          simp only [Bool.or_eq_true, Bool.and_eq_true] at h3 ⊢
          exact h3.imp id (fun h4 => ⟨h4, by rw [hlook]; simp⟩)
      · rw [if_neg hie] at h2
        rw [if_pos (by omega)]
        refine List.all_eq_true.2 fun j hj => ?_
        have h3 := List.all_eq_true.1 h2 j hj
        simp only [Bool.or_eq_true, Bool.and_eq_true, decide_eq_true_eq] at h3 ⊢
        exact h3.imp id (fun ⟨⟨h4, h5⟩, h6⟩ => ⟨⟨by omega, h5⟩, h6⟩)
theorem alloc_at {k e i : Nat} (h : drawOkE ops k e = true) (h1 : k ≤ i) (h2 : i < k + e) : ∃ o t d, ops[i]? = some o ∧ o.guard = none ∧ o.op = .alloc t ∧ o.dst = some d ∧ (∀ j o' d', ops[j]? = some o' → j ≠ i → o'.dst = some d' → d ≠ d') ∧ ∀ j o', j < k → ops[j]? = some o' → d ∉ o'.looksAt ops := by
  unfold drawOkE at h
  simp only [Bool.and_eq_true, decide_eq_true_eq] at h
  obtain ⟨hks, hall⟩ := h
  have hil : i < ops.size := by omega
  have h3 := List.all_eq_true.1 hall i (List.mem_range.2 hil)
  have ho : ops[i]? = some ops[i] := Array.getElem?_eq_getElem hil
  rw [ho] at h3
  simp only [Bool.and_eq_true] at h3
  have h4 := h3.2
  rw [if_neg (by omega), if_pos h2] at h4
  simp only [Bool.and_eq_true] at h4
  have hal := h4.1
  unfold isAlloc at hal
  rw [ho] at hal
  simp only [Bool.and_eq_true, Option.isNone_iff_eq_none] at hal
  obtain ⟨⟨hg, hd⟩, hop⟩ := hal
  obtain ⟨d, hd⟩ := Option.isSome_iff_exists.1 hd
  obtain ⟨t, ht⟩ : ∃ t, ops[i].op = .alloc t := by
    cases hq : ops[i].op with
    | alloc t => exact ⟨t, rfl⟩
    | _ => rw [hq] at hop; simp at hop
  refine ⟨_, t, d, ho, hg, ht, hd, fun j o' d' hj hne hd' => ?_, fun j o' hj hjo hm => ?_⟩
  · have hjl : j < ops.size := (Array.getElem?_eq_some_iff.1 hj).1
    have h5 := List.all_eq_true.1 h4.2 j (List.mem_range.2 hjl)
    rw [hj] at h5
    simp only [Option.bind_some, hd', Bool.or_eq_true, beq_iff_eq, hne, false_or, bne_iff_ne, ne_eq, hd] at h5
    intro e; subst e; exact h5 rfl
  · have hjl : j < ops.size := (Array.getElem?_eq_some_iff.1 hjo).1
    have h5 := List.all_eq_true.1 hall j (List.mem_range.2 hjl)
    rw [hjo] at h5
    simp only [Bool.and_eq_true] at h5
    have h6 := h5.2
    rw [if_pos hj] at h6
    have h7 := List.all_eq_true.1 h6 i (List.mem_range.2 hil)
    rw [ho] at h7
    have hne : (i == j) = false := by simp; omega
    have hc : (o'.looksAt ops).contains d = true := by simpa using hm
    have hk1 : decide (k ≤ i) = true := decide_eq_true h1
    have hk2 : decide (i < k + e) = true := decide_eq_true h2
    simp only [Option.bind_some, hd, hne, hc, hk1, hk2, Bool.not_true, Bool.and_true, Bool.false_or, Bool.false_and, Bool.and_false] at h7
    cases h7
/-- As SimE, and in some slots there are pointers to variables that were made and nobody has touched. -/
def SimR (F : Fr) (E : Nat → Option AV) (hp : List (Nat × Blk)) (nx : Nat) (R : Nat → Option (TypeId × Array Value)) (a : Act) (w : World) : Prop :=
  a.defers = [] ∧ a.tmps.size = F.n ∧ ∃ (S : Nat → Prop) (m : Nat → Nat × Nat) (γ : Nat → Nat), Mem F hp nx w S m ∧ (∀ t x, E t = some x → R t = none → t < F.n ∧ Rep w S m nx x (a.tmps.getD t undef)) ∧
    (∀ d r, R d = some r → d < F.n ∧ a.tmps.getD d undef = .pointer (some ⟨γ d, 0, none⟩) ∧ S (γ d) ∧ F.w0.heap.size ≤ γ d ∧ w.heap[γ d]? = some (.cells r.2 r.1 (0, 0)) ∧ (∀ b k, get b hp = some k → (m b).1 ≠ γ d)) ∧
    (∀ d d' r r', R d = some r → R d' = some r' → γ d = γ d' → d = d')
theorem Mem.wider {w w' : World} {S : Nat → Prop} {m : Nat → Nat × Nat} (h : Mem F hp nx w S m) (hb : Below w.heap.size w w') (hlt : w.heap.size < w'.heap.size) : Mem F hp nx w' (fun i => S i ∨ i = w.heap.size) m := by
  have h' := h.below hb
  have hup : ∀ x v, Rep w S m nx x v → Rep w' (fun i => S i ∨ i = w.heap.size) m nx x v := fun x v hr => hr.mono (fun i hi hS => ⟨hb.block i hi, fun hh => hh.elim hS (fun e => by omega)⟩) (fun _ _ => rfl) (Nat.le_refl _)
  refine ⟨h'.glob, h'.os, h'.tape, h'.output, h'.size, h'.keep, fun i hi => ⟨fun hh => hh.elim (h.old i hi).1 (fun e => by have := h.size; omega), fun h1 h2 => .inl ((h.old i hi).2 h1 h2)⟩, h'.agree, h'.nile, fun i hi => hi.elim (fun hh => h'.lt i hh) (fun e => by omega), fun b k hg => ⟨(h'.live b k hg).1, .inl (h'.live b k hg).2.1, (h'.live b k hg).2.2⟩, fun b k hg => ?_, h'.inj⟩
  obtain ⟨cur, h1, h2, h3⟩ := h.cells b k hg
  exact ⟨cur, h1.of (hb.block _ (h.lt _ (h.live b k hg).2.1)), fun j x hx => by obtain ⟨v, hv, hr⟩ := h2 j x hx; exact ⟨v, hv, hup _ _ hr⟩, h3⟩
theorem stepV_soundR (hn : F.n = n) {E : Nat → Option AV} {R : Nat → Option (TypeId × Array Value)} {i : Nat} {o : Oper} (ho : ops[i]? = some o) {x : AV} {a : Act} {w : World} {K' : Act → World → Prop} {Q : Exit → Act → World → Prop} (h : StepV P n ops hp nx E o x)
    (hl : ∀ d r, R d = some r → d ∉ o.looksAt ops ∧ o.dst ≠ some d) (hs : SimR F E hp nx R a w) (hK : ∀ a' w', SimR F (updE E o.dst x) hp nx R a' w' → K' a' w') : wpOp P ops Q i K' a w := by
  obtain ⟨hd, htn, S, m, γ, hm, hE, hR, hinj⟩ := hs
  let E1 : Nat → Option AV := fun t => match R t with
    | some _ => some (.s (.pointer (some ⟨γ t, 0, none⟩)))
    | none => E t
  have hE1 : ∀ t r, R t = some r → E1 t = some (.s (.pointer (some ⟨γ t, 0, none⟩))) := fun t r hr => by
    show (match R t with | some _ => _ | none => _) = _; rw [hr]
  have hE0 : ∀ t, R t = none → E1 t = E t := fun t hr => by
    show (match R t with | some _ => _ | none => _) = _; rw [hr]
  have h1 : StepV P n ops hp nx E1 o x := step_congr (fun t ht => by
    cases hr : R t with
    | none => exact hE0 t hr
    | some r => exact absurd ht (hl t r hr).1) h
  let F' : Fr := ⟨w, Lv hp m, S, F.n, m, nx⟩
  have hm0 := hm.sub (hp1 := hp) (fun _ _ h => h)
  have hm1 : Mem F' hp nx w S m := ⟨hm0.glob, hm0.os, hm0.tape, hm0.output, hm0.size, hm0.keep, hm0.old, hm0.agree, hm0.nile, hm0.lt, hm0.live, hm0.cells, hm0.inj⟩
  refine stepV_sound (F := F') hn ho h1 ⟨hd, htn, S, m, hm1, fun t y hy => ?_⟩ (fun a' w' ⟨hd', htn', S', m', hm', hE'⟩ => hK a' w' ?_)
  · cases hr : R t with
    | none => rw [hE0 t hr] at hy; exact hE t y hy hr
    | some r => rw [hE1 t r hr] at hy; injection hy with hy; subst hy; rw [(hR t r hr).2.1]; exact ⟨(hR t r hr).1, .s _⟩
  · have hm2 : Mem ⟨w, Lv hp m, S, 0, m, nx⟩ hp nx w' S' m' := ⟨hm'.glob, hm'.os, hm'.tape, hm'.output, hm'.size, hm'.keep, hm'.old, hm'.agree, hm'.nile, hm'.lt, hm'.live, hm'.cells, hm'.inj⟩
    obtain ⟨j1, _⟩ := hm.join (hp1 := hp) (fun _ _ h => h) hm2 (fun b k hg _ => by rw [hg]; rfl)
    have j2 : Mem F hp nx w' S' m' := j1.fewer (fun b k hg => by rw [get_append, hg])
    refine ⟨hd', htn', S', m', γ, j2, fun t y hy hr => ?_, fun d r hr => ?_, hinj⟩
    · have : updE E1 o.dst x t = some y := by
        unfold updE at hy ⊢
        split at hy
        · rename_i e; rw [if_pos e]; exact hy
        · rename_i e; rw [if_neg e, hE0 t hr]; exact hy
      exact hE' t y this
    · obtain ⟨r1, r2, r3, r4, r5, r6⟩ := hR d r hr
      have hlt : γ d < w.heap.size := (Array.getElem?_eq_some_iff.1 r5).1
      have hnl : ¬ Lv hp m (γ d) := fun ⟨b, k, hb, he⟩ => r6 b k hb he
      have hptr := (hE' d (.s (.pointer (some ⟨γ d, 0, none⟩))) (by unfold updE; rw [if_neg (hl d r hr).2]; exact hE1 d r hr)).2
      refine ⟨r1, ?_, (hm'.old _ hlt).2 r3 hnl, r4, (hm'.keep _ hlt hnl).trans r5, fun b k hg => ?_⟩
      · generalize a'.tmps.getD d undef = u at *
        cases hptr; rfl
      · rw [hm'.agree b (hm.live b k hg).1]; exact r6 b k hg
theorem allocR (hn : F.n = n) {E : Nat → Option AV} {R : Nat → Option (TypeId × Array Value)} {i : Nat} {o : Oper} (ho : ops[i]? = some o) (hg : o.guard = none) {t : TypeId} (hop : o.op = .alloc t) {d : Nat} (hd : o.dst = some d) (hdn : d < n) {z : List AV} (hz : zeroT P t = some z) (hRd : R d = none)
    {a : Act} {w : World} {K' : Act → World → Prop} {Q : Exit → Act → World → Prop} (hs : SimR F E hp nx R a w) (hK : ∀ zs : Array Value, z = zs.toList.map .s → ∀ a' w', SimR F E hp nx (fun x => if x = d then some (t, zs) else R x) a' w' → K' a' w') : wpOp P ops Q i K' a w := by
  obtain ⟨hdf, htn, S, m, γ, hm, hE, hR, hinj⟩ := hs
  obtain ⟨zv, hr, he⟩ := run_zeroT hz w
  have hb : Below w.heap.size w (w.alloc (.cells zv.cells t)) := (Below.refl _ _).alloc (Nat.le_refl _) _
  have hnew := heap_alloc_new w (.cells zv.cells t)
  have hlt : w.heap.size < (w.alloc (.cells zv.cells t)).heap.size := (Array.getElem?_eq_some_iff.1 hnew).1
  unfold wpOp
  rw [ho]
  simp only
  rw [if_pos (by simp [Region.wanted, hg])]
  refine .inl ?_
  have hrun : (execOp a.eval o).run P w = .ok (.value (.pointer (some ⟨w.heap.size, 0, none⟩))) (w.alloc (.cells zv.cells t)) := by
    simp [execOp, hop, Instr.alloc, hr, newVar, newRow, newObj, Sem.run]
  unfold Oper.wp
  rw [hrun]
  have hda : d < a.tmps.size := by rw [htn, hn]; exact hdn
  have hput : ∀ x, x ≠ d → (a.put o.dst (.pointer (some ⟨w.heap.size, 0, none⟩))).tmps.getD x undef = a.tmps.getD x undef := fun x hx => by
    rw [hd]
    simp only [Act.put]
    rw [Array.getD_eq_getD_getElem?, Array.getElem?_setIfInBounds_ne (Ne.symm hx), ← Array.getD_eq_getD_getElem?]
  have hputd : (a.put o.dst (.pointer (some ⟨w.heap.size, 0, none⟩))).tmps.getD d undef = .pointer (some ⟨w.heap.size, 0, none⟩) := by
    rw [hd]
    simp only [Act.put]
    rw [Array.getD_eq_getD_getElem?, Array.getElem?_setIfInBounds_self, if_pos hda]; rfl
  refine hK zv.cells he _ _ ⟨by rw [hd]; exact hdf, by rw [hd]; simp [Act.put, htn], fun i => S i ∨ i = w.heap.size, m, fun x => if x = d then w.heap.size else γ x, hm.wider hb hlt, fun t' x hx hr' => ?_, fun d' r hr' => ?_, fun d1 d2 r1 r2 h1 h2 hγ => ?_⟩
  · dsimp only at hr'
    have hne : t' ≠ d := fun e => by rw [if_pos e] at hr'; cases hr'
    rw [if_neg hne] at hr'
    obtain ⟨h1, h2⟩ := hE t' x hx hr'
    rw [hput t' hne]
    exact ⟨h1, h2.mono (fun i hi hS => ⟨hb.block i hi, fun hh => hh.elim hS (fun e => by omega)⟩) (fun _ _ => rfl) (Nat.le_refl _)⟩
  · dsimp only at hr' ⊢
    by_cases hne : d' = d
    · subst hne
      rw [if_pos rfl] at hr'
      injection hr' with hr'; subst hr'
      simp only [if_true]
      exact ⟨by rw [hn]; exact hdn, hputd, .inr trivial, hm.size, hnew, fun b k hb' => by have := hm.lt _ (hm.live b k hb').2.1; omega⟩
    · rw [if_neg hne] at hr'
      simp only [if_neg hne]
      obtain ⟨r1, r2, r3, r4, r5, r6⟩ := hR d' r hr'
      have hl : γ d' < w.heap.size := (Array.getElem?_eq_some_iff.1 r5).1
      exact ⟨r1, by rw [hput d' hne]; exact r2, .inl r3, r4, (hb.block _ hl).trans r5, r6⟩
  · by_cases e1 : d1 = d <;> by_cases e2 : d2 = d
    · rw [e1, e2]
    · simp only [if_pos e1, if_neg e2] at hγ h1 h2
      have := (Array.getElem?_eq_some_iff.1 (hR d2 r2 h2).2.2.2.2.1).1; omega
    · simp only [if_neg e1, if_pos e2] at hγ h1 h2
      have := (Array.getElem?_eq_some_iff.1 (hR d1 r1 h1).2.2.2.2.1).1; omega
    · simp only [if_neg e1, if_neg e2] at hγ h1 h2
      exact hinj d1 d2 r1 r2 h1 h2 hγ
/-- A variable that was made becomes an own block. -/
theorem SimR.take {E : Nat → Option AV} {R : Nat → Option (TypeId × Array Value)} {a : Act} {w : World} {d : Nat} {t : TypeId} {zs : Array Value} (hs : SimR F E hp nx R a w) (hR : R d = some (t, zs)) :
    SimR F (updE E (some d) (.ptr nx 0)) ((nx, ⟨t, 0, zs.toList.map .s⟩) :: hp) (nx + 1) (fun x => if x = d then none else R x) a w := by
  obtain ⟨hdf, htn, S, m, γ, hm, hE, hRR, hinj⟩ := hs
  obtain ⟨r1, r2, r3, r4, r5, r6⟩ := hRR d _ hR
  have hnb : ∀ b k, get b hp = some k → b ≠ nx := fun b k hg => by have := (hm.live b k hg).1; omega
  have hup : ∀ x v, Rep w S m nx x v → Rep w S (fun b => if b = nx then (γ d, 0) else m b) (nx + 1) x v := fun x v hr => hr.mono (fun i hi hS => ⟨rfl, hS⟩) (fun b hb => if_neg (by omega)) (by omega)
  refine ⟨hdf, htn, S, fun b => if b = nx then (γ d, 0) else m b, γ, ⟨hm.glob, hm.os, hm.tape, hm.output, hm.size, hm.keep, hm.old, fun b hb => (if_neg (by have := hm.nile; omega)).trans (hm.agree b hb), by have := hm.nile; omega, hm.lt, fun b k hg => ?_, fun b k hg => ?_, fun b b' k k' hg hg' he => ?_⟩, fun t' x hx hr => ?_, fun d' r hr => ?_, fun d1 d2 q1 q2 h1 h2 hγ => ?_⟩
  · unfold get at hg
    split at hg
    · rename_i e; subst e
      simp only [if_true]
      exact ⟨by omega, r3, .inr r4⟩
    · rw [if_neg (hnb b k hg)]
      have := hm.live b k hg
      exact ⟨by omega, this.2⟩
  · unfold get at hg
    split at hg
    · rename_i e; subst e
      injection hg with hg; subst hg
      simp only [if_true]
      refine ⟨zs, ⟨fun _ => r5, fun e => absurd e (show (0 : Nat) ≠ mapMark by decide)⟩, fun j x hx => ?_, fun h => absurd rfl h⟩
      rw [List.getElem?_map] at hx
      obtain ⟨v, hv, rfl⟩ := map_some' hx
      exact ⟨v, by simpa using hv, .s v⟩
    · rw [if_neg (hnb b k hg)]
      obtain ⟨cur, c1, c2, c3⟩ := hm.cells b k hg
      exact ⟨cur, c1, fun j x hx => by obtain ⟨v, h1, h2⟩ := c2 j x hx; exact ⟨v, h1, hup _ _ h2⟩, c3⟩
  · unfold get at hg hg'
    split at hg
    · rename_i e; subst e
      split at hg'
      · rename_i e; exact e.symm
      · rw [if_pos rfl, if_neg (hnb b' k' hg')] at he
        exact absurd he.symm (r6 b' k' hg')
    · split at hg'
      · rename_i e; subst e
        rw [if_pos rfl, if_neg (hnb b k hg)] at he
        exact absurd he (r6 b k hg)
      · rw [if_neg (hnb b k hg), if_neg (hnb b' k' hg')] at he
        exact hm.inj b b' k k' hg hg' he
  · unfold updE at hx
    by_cases e : t' = d
    · subst e
      rw [if_pos rfl] at hx
      injection hx with hx; subst hx
      refine ⟨r1, ?_⟩
      rw [r2]
      have := Rep.ptr (w := w) (S := S) (m := fun b => if b = nx then (γ t', 0) else m b) (nx := nx + 1) nx 0 (by omega) (by simp only [if_true]; decide)
      simpa using this
    · rw [if_neg (by simp; exact fun e' => e e'.symm)] at hx
      dsimp only at hr
      rw [if_neg e] at hr
      obtain ⟨h1, h2⟩ := hE t' x hx hr
      exact ⟨h1, hup _ _ h2⟩
  · dsimp only at hr ⊢
    by_cases e : d' = d
    · rw [if_pos e] at hr; cases hr
    · rw [if_neg e] at hr
      obtain ⟨q1, q2, q3, q4, q5, q6⟩ := hRR d' r hr
      refine ⟨q1, q2, q3, q4, q5, fun b k hg => ?_⟩
      unfold get at hg
      split at hg
      · rename_i e'; subst e'
        simp only [if_true]
        exact fun hh => e (hinj d' d r _ hr hR hh.symm)
      · rw [if_neg (hnb b k hg)]; exact q6 b k hg
  · dsimp only at h1 h2
    by_cases e1 : d1 = d
    · rw [if_pos e1] at h1; cases h1
    · by_cases e2 : d2 = d
      · rw [if_pos e2] at h2; cases h2
      · rw [if_neg e1] at h1; rw [if_neg e2] at h2
        exact hinj d1 d2 q1 q2 h1 h2 hγ
end
end Go.Proofs.YtdfokoapenhalaaDoor.Ab
end
section
namespace Go.Proofs.YtdfokoapenhalaaDoor.Ab
open Go Go.RowKit Go.Shelf
section
variable {P : Program} {n : Nat} {ops : Array Oper} {hp : List (Nat × Blk)} {nx : Nat} {F : Fr}
theorem litH_get (hlt : ∀ b k, get b hp = some k → b < nx) : ∀ (bs : List (Option Blk)) (i b : Nat) (k : Blk), get b (litH nx i bs hp) = some k → (b < nx ∧ get b hp = some k) ∨ ∃ j, b = nx + i + j ∧ bs[j]? = some (some k)
  | [], i, b, k, h => .inl ⟨hlt b k h, h⟩
  | none :: bs, i, b, k, h => by
    rcases litH_get hlt bs (i + 1) b k h with h1 | ⟨j, h1, h2⟩
    · exact .inl h1
    · exact .inr ⟨j + 1, by omega, by simpa using h2⟩
  | some q :: bs, i, b, k, h => by
    have h' : (if b = nx + i then some q else get b (litH nx (i + 1) bs hp)) = some k := h
    split at h'
    · rename_i e; injection h' with h'; subst h'; exact .inr ⟨0, by omega, rfl⟩
    · rcases litH_get hlt bs (i + 1) b k h' with h1 | ⟨j, h1, h2⟩
      · exact .inl h1
      · exact .inr ⟨j + 1, by omega, by simpa using h2⟩
theorem fop_congr {E E' : Nat → Option AV} {i : Nat} {o : Oper} {x : AV} {b : Option Blk} (h : ∀ t ∈ o.looksAt ops, E' t = E t) (hs : FOp P n hp nx E i o x b) : FOp P n hp nx E' i o x b := by
  have ho := ev_congr (l := o.op.operands.toList) (E := oldE nx E) (E' := oldE nx E') (fun t ht => by unfold oldE; rw [h t (List.mem_append_left _ ht)])
  refine ⟨hs.1, hs.2.1, ?_⟩
  have h2 := hs.2.2
  cases b with
  | some blk =>
    obtain ⟨k, h1, h3, h4⟩ := h2
    exact ⟨k, h1, h3, by rw [own_congr o.op ho]; exact h4⟩
  | none =>
    rcases h2 with ⟨h3, h4⟩ | ⟨t, h3, h4⟩
    · exact .inl ⟨by rw [pure_congr o.op ho]; exact h3, h4⟩
    · refine .inr ⟨t, h3, ?_⟩
      rw [h t (List.mem_append_left _ (by rcases h3 with h3 | h3 <;> rw [h3] <;> simp [Op.operands]))]; exact h4
theorem frun_at : ∀ (l : List Oper) (xs : List AV) (bs : List (Option Blk)) (E : Nat → Option AV) (b : Nat), FRun P n hp nx E b l xs bs → ∀ i o, l[i]? = some o → ∃ x q, xs[i]? = some x ∧ bs[i]? = some q ∧ FOp P n hp nx (EL (fun j => decide (j < b + i)) E b l xs) (b + i) o x q
  | [], _, _, _, _, _, i, o, h => by simp at h
  | o0 :: l, [], _, E, b, h, i, o, _ => by cases h
  | o0 :: l, x0 :: xs, [], E, b, h, i, o, _ => by cases h
  | o0 :: l, x0 :: xs, q0 :: bs, E, b, h, i, o, ho => by
    cases i with
    | zero =>
      simp at ho; subst ho
      refine ⟨x0, q0, rfl, rfl, ?_⟩
      have : EL (fun j => decide (j < b + 0)) E b (o0 :: l) (x0 :: xs) = E := funext fun t => EL_none _ t _ _ _ _ (fun i _ _ _ => by simp)
      rw [this]; exact h.1
    | succ i =>
      obtain ⟨x, q, hx, hq, hs⟩ := frun_at l xs bs _ (b + 1) h.2 i o (by simpa using ho)
      refine ⟨x, q, by simpa using hx, by simpa using hq, ?_⟩
      have : EL (fun j => decide (j < b + (i + 1))) E b (o0 :: l) (x0 :: xs) = EL (fun j => decide (j < b + 1 + i)) (updE E o0.dst x0) (b + 1) l xs := by
        show EL _ (if decide (b < b + (i + 1)) = true then _ else _) (b + 1) l xs = _
        rw [if_pos (by simp)]
        congr 1
        funext j; rw [show b + (i + 1) = b + 1 + i by omega]
      rw [this, show b + (i + 1) = b + 1 + i by omega]; exact hs
theorem buildOwn_at {ρ : Operand → Option AV} {op : Op} {k : Nat} {blk : Blk} (h : aBuildOwn P ρ hp nx op = some (.own nx k, (nx, blk) :: hp, nx + 1)) (hp' : List (Nat × Blk)) (nx' : Nat) : aBuildOwn P ρ hp' nx' op = some (.own nx' k, (nx', blk) :: hp', nx' + 1) := by
  unfold aBuildOwn at h ⊢
  split at h
  · rename_i t m parts
    split at h
    · rename_i e hu
      split at h
      · rename_i k' z ps h1 h2 h3
        split at h
        · rename_i hh
          rw [if_pos hh]
          obtain ⟨cs, hcs, h⟩ := map_some' h
          rw [hcs]
          simp only [Option.map_some, Option.some.injEq, Prod.mk.injEq, AV.own.injEq, List.cons.injEq, true_and, and_true] at h ⊢
          exact ⟨h.1.symm ▸ rfl, by rw [← h.2]⟩
        · cases h
      · cases h
    · cases h
  · cases h
/-- What holds while such a region's operations come up. -/
def FSim (F : Fr) (E : Nat → Option AV) (hp : List (Nat × Blk)) (nx : Nat) (bs : List (Option Blk)) (listed : Nat → Bool) (a : Act) (w : World) : Prop :=
  a.defers = [] ∧ a.tmps.size = F.n ∧ ∃ (S : Nat → Prop) (m : Nat → Nat × Nat) (pos : Nat → Nat) (c : Nat) (hc : List (Nat × Blk)), Mem F hc (nx + c) w S m ∧ (∀ b, b < nx → get b hc = get b hp) ∧
    (∀ i q, bs[i]? = some (some q) → listed i = true → pos i < c ∧ get (nx + pos i) hc = some q) ∧
    (∀ i j q q', bs[i]? = some (some q) → bs[j]? = some (some q') → listed i = true → listed j = true → pos i = pos j → i = j) ∧
    ∀ t x, E t = some x → t < F.n ∧ ((x.keyed nx 4 = true ∧ Rep w S m nx x (a.tmps.getD t undef)) ∨ ∃ i q k, bs[i]? = some (some q) ∧ listed i = true ∧ x = .own (nx + i) k ∧ Rep w S m (nx + c) (.own (nx + pos i) k) (a.tmps.getD t undef))
theorem keyed_up {nx : Nat} : ∀ {d : Nat} {x : AV}, AV.keyed 0 d x = true → AV.keyed nx d x = true := by
  intro d
  induction d with
  | zero => intro x hx; cases x <;> simp [AV.keyed] at hx ⊢
  | succ d ih =>
    intro x hx
    cases x <;> simp [AV.keyed] at hx ⊢ <;> exact fun y hy => ih (hx y hy)
theorem not_keyed_own (nx i k : Nat) : AV.keyed nx 4 (.own (nx + i) k) = false := by simp [AV.keyed]
/-- One operation. -/
theorem fstep (hlt : ∀ b k, get b hp = some k → b < nx ∧ k.cs.all (AV.keyed nx 4) = true) (hni : F.ni ≤ nx) {E : Nat → Option AV} {bs : List (Option Blk)} {listed listed' : Nat → Bool} {i : Nat} {o : Oper} {x : AV} {b : Option Blk} (hb : bs[i]? = some b) (hl : ∀ j, listed' j = (listed j || decide (j = i))) (hun : listed i = false)
    (hf : FOp P F.n hp nx E i o x b) {a : Act} {w : World} (hs : FSim F E hp nx bs listed a w) {K' : Act → World → Prop} {Q : Exit → Act → World → Prop} (hK : ∀ a' w', FSim F (updE E o.dst x) hp nx bs listed' a' w' → K' a' w') : o.wp P a w K' Q := by
  obtain ⟨hd, htn, S, m, pos, c, hc, hm, hg, hb1, hinj, hE⟩ := hs
  obtain ⟨hgd, hdo, hf⟩ := hf
  -- a new value is laid into the slot
  have fin : ∀ (v : Value) (w' : World) (S' : Nat → Prop) (m' : Nat → Nat × Nat) (pos' : Nat → Nat) (c' : Nat) (hc' : List (Nat × Blk)), Mem F hc' (nx + c') w' S' m' → (∀ b, b < nx → get b hc' = get b hp) →
      (∀ i q, bs[i]? = some (some q) → listed' i = true → pos' i < c' ∧ get (nx + pos' i) hc' = some q) →
      (∀ i j q q', bs[i]? = some (some q) → bs[j]? = some (some q') → listed' i = true → listed' j = true → pos' i = pos' j → i = j) →
      (∀ x v, x.keyed nx 4 = true → Rep w S m nx x v → Rep w' S' m' nx x v) →
      (∀ j q k v, bs[j]? = some (some q) → listed j = true → Rep w S m (nx + c) (.own (nx + pos j) k) v → Rep w' S' m' (nx + c') (.own (nx + pos' j) k) v) →
      ((x.keyed nx 4 = true ∧ Rep w' S' m' nx x v) ∨ ∃ i q k, bs[i]? = some (some q) ∧ listed' i = true ∧ x = .own (nx + i) k ∧ Rep w' S' m' (nx + c') (.own (nx + pos' i) k) v) →
      FSim F (updE E o.dst x) hp nx bs listed' (a.put o.dst v) w' := by
    intro v w' S' m' pos' c' hc' h1 h2 h3 h4 h5 h6 h7
    have old : ∀ t y u, E t = some y → t < F.n ∧ ((y.keyed nx 4 = true ∧ Rep w S m nx y u) ∨ ∃ i q k, bs[i]? = some (some q) ∧ listed i = true ∧ y = .own (nx + i) k ∧ Rep w S m (nx + c) (.own (nx + pos i) k) u) →
        t < F.n ∧ ((y.keyed nx 4 = true ∧ Rep w' S' m' nx y u) ∨ ∃ i q k, bs[i]? = some (some q) ∧ listed' i = true ∧ y = .own (nx + i) k ∧ Rep w' S' m' (nx + c') (.own (nx + pos' i) k) u) := fun t y u _ ⟨h8, h9⟩ =>
      ⟨h8, h9.elim (fun ⟨e1, e2⟩ => .inl ⟨e1, h5 y u e1 e2⟩) (fun ⟨j, q, k, e1, e2, e3, e4⟩ => .inr ⟨j, q, k, e1, by rw [hl, e2]; rfl, e3, h6 j q k u e1 e2 e4⟩)⟩
    cases hdd : o.dst with
    | none => exact ⟨hd, htn, S', m', pos', c', hc', h1, h2, h3, h4, fun t y h => by rw [show updE E none x t = E t from if_neg (by simp)] at h; exact old t y _ h (hE t y h)⟩
    | some d =>
      rw [hdd] at hdo
      refine ⟨hd, by simp [Act.put, htn], S', m', pos', c', hc', h1, h2, h3, h4, fun t y h => ?_⟩
      have h' : (if some d = some t then some x else E t) = some y := h
      by_cases htd : d = t
      · subst htd
        rw [if_pos rfl] at h'
        injection h' with h'; subst h'
        have hok' : d < F.n := hdo
        have hlt : d < a.tmps.size := by rw [htn]; exact hok'
        refine ⟨hok', ?_⟩
        simp only [Act.put]
        rw [Array.getD_eq_getD_getElem?, Array.getElem?_setIfInBounds_self, if_pos hlt]
        exact h7
      · rw [if_neg (by simpa using htd)] at h'
        simp only [Act.put]
        rw [Array.getD_eq_getD_getElem?, Array.getElem?_setIfInBounds_ne htd, ← Array.getD_eq_getD_getElem?]
        exact old t y _ h' (hE t y h')
  have hoE : ∀ t y, oldE nx E t = some y → t < F.n ∧ Rep w S m nx y (a.tmps.getD t undef) := fun t y h => by
    unfold oldE at h
    split at h
    · rename_i z hz
      split at h
      · rename_i hk
        injection h with h; subst h
        obtain ⟨h1, h2⟩ := hE t _ hz
        refine ⟨h1, h2.elim (fun h => h.2) (fun ⟨j, q, k, _, _, e, _⟩ => ?_)⟩
        rw [e, not_keyed_own] at hk; cases hk
      · cases h
    · cases h
  have hmo : Mem F hp nx w S m := hm.lower hni (fun b k hbk => ⟨by rw [hg b (hlt b k hbk).1]; exact hbk, hlt b k hbk⟩)
  have hρ : ∀ o y, aEv (oldE nx E) o = some y → Rep w S m nx y (a.eval o) := fun o y h => aEv_rep hmo hoE h
  have hnl : ∀ j q, bs[j]? = some (some q) → listed' j = true → b = none → listed j = true := fun j q hj h hbn => by
    rw [hl] at h
    rcases Bool.or_eq_true_iff.1 h with h | h
    · exact h
    · have := of_decide_eq_true h; subst this
      rw [hbn] at hb; rw [hb] at hj; cases hj
  cases b with
  | none =>
    rcases hf with ⟨hx, hk⟩ | ⟨t, ho, ht⟩
    · obtain ⟨v, w', hr, hbl, hrep⟩ := aPure_sound hmo hρ o hx
      unfold Oper.wp
      rw [hr]
      exact hK _ _ (fin v w' S m pos c hc (hm.below hbl) hg (fun j q h1 h2 => hb1 j q h1 (hnl j q h1 h2 rfl)) (fun j j' q q' h1 h2 h3 h4 => hinj j j' q q' h1 h2 (hnl j q h1 h3 rfl) (hnl j' q' h2 h4 rfl)) (fun y u _ h => h.belowW hbl) (fun _ _ _ _ _ _ h => h.belowW hbl) (.inl ⟨hk, hrep⟩))
    · have hr : (execOp a.eval o).run P w = .ok (.value (a.tmps.getD t undef)) w := by
        rcases ho with ho | ho <;> (simp only [execOp, ho]; rfl)
      unfold Oper.wp
      rw [hr]
      refine hK _ _ (fin _ w S m pos c hc hm hg (fun j q h1 h2 => hb1 j q h1 (hnl j q h1 h2 rfl)) (fun j j' q q' h1 h2 h3 h4 => hinj j j' q q' h1 h2 (hnl j q h1 h3 rfl) (hnl j' q' h2 h4 rfl)) (fun y u _ h => h) (fun _ _ _ _ _ _ h => h) ?_)
      exact (hE t x ht).2.elim .inl (fun ⟨j, q, k, e1, e2, e3, e4⟩ => .inr ⟨j, q, k, e1, by rw [hl, e2]; rfl, e3, e4⟩)
  | some blk =>
    obtain ⟨k, rfl, hbk, hown⟩ := hf
    have hown' := buildOwn_at hown hc (nx + c)
    obtain ⟨v, w', S', m', hr, h1, h2, h3⟩ := aBuildOwn_sound hm (fun o y h => (hρ o y h).up (Nat.le_add_right _ _)) o hown'
    simp only at h1 h2 h3
    unfold Oper.wp
    rw [hr]
    have hpj : ∀ j q, bs[j]? = some (some q) → listed j = true → (if j = i then c else pos j) = pos j := fun j q _ h => by
      rw [if_neg (fun e => by subst e; rw [hun] at h; cases h)]
    have hcase : ∀ j, listed' j = true → j = i ∨ listed j = true := fun j h => by
      rw [hl] at h
      rcases Bool.or_eq_true_iff.1 h with h | h
      · exact .inr h
      · exact .inl (of_decide_eq_true h)
    refine hK _ _ (fin v w' S' m' (fun j => if j = i then c else pos j) (c + 1) ((nx + c, blk) :: hc) h1 (fun b' hb' => ?_) (fun j q hj hlj => ?_) (fun j j' q q' hj hj' hlj hlj' he => ?_) (fun y u hy hr => (h2 _ _ (hr.up (Nat.le_add_right _ _))).lower 4 hy) (fun j q k' u hj hlj hr => ?_) (.inr ⟨i, blk, k, hb, by rw [hl]; simp, rfl, ?_⟩))
    · show (if b' = nx + c then _ else get b' hc) = _
      rw [if_neg (by omega)]; exact hg b' hb'
    · rcases hcase j hlj with rfl | h
      · rw [hb] at hj; injection hj with hj; injection hj with hj; subst hj
        simp only [if_true]
        exact ⟨by omega, by show (if nx + c = nx + c then _ else _) = _; rw [if_pos rfl]⟩
      · obtain ⟨p1, p2⟩ := hb1 j q hj h
        rw [hpj j q hj h]
        exact ⟨by omega, by show (if nx + pos j = nx + c then _ else get (nx + pos j) hc) = _; rw [if_neg (by omega)]; exact p2⟩
    · rcases hcase j hlj with rfl | h <;> rcases hcase j' hlj' with rfl | h'
      · rfl
      · have := (hb1 j' q' hj' h').1
        rw [if_pos rfl, hpj j' q' hj' h'] at he; omega
      · have := (hb1 j q hj h).1
        rw [if_pos rfl, hpj j q hj h] at he; omega
      · rw [hpj j q hj h, hpj j' q' hj' h'] at he
        exact hinj j j' q q' hj hj' h h' he
    · rw [hpj j q hj hlj]
      exact h2 _ _ hr
    · simp only [if_true]; exact h3
/-- When all have come up. -/
theorem fsim_end (hlt : ∀ b k, get b hp = some k → b < nx ∧ k.cs.all (AV.keyed nx 4) = true) (hni : F.ni ≤ nx) {E : Nat → Option AV} {bs : List (Option Blk)} {listed : Nat → Bool} (hall : ∀ (i : Nat) (q : Blk), bs[i]? = some (some q) → listed i = true) (hkb : ∀ (i : Nat) (q : Blk), bs[i]? = some (some q) → q.cs.all (AV.keyed 0 4) = true)
    {a : Act} {w : World} (hs : FSim F E hp nx bs listed a w) : SimE F E (litH nx 0 bs hp) (nx + bs.length) a w := by
  obtain ⟨hd, htn, S, m, pos, c, hc, hm, hg, hb1, hinj, hE⟩ := hs
  let σ : Nat → Nat := fun b => if b < nx then b else nx + pos (b - nx)
  have hσ : ∀ b, b < nx → σ b = b := fun b h => if_pos h
  have hσ2 : ∀ i, σ (nx + i) = nx + pos i := fun i => by show (if _ then _ else _) = _; rw [if_neg (by omega), Nat.add_sub_cancel_left]
  have hup : ∀ x v, x.keyed nx 4 = true → Rep w S m nx x v → Rep w S (fun b => m (σ b)) (nx + bs.length) x v := fun x v _ h => h.mono (fun _ _ h => ⟨rfl, h⟩) (fun b hb => by show m (σ b) = m b; rw [hσ b hb]) (Nat.le_add_right _ _)
  have hblk : ∀ b k, get b (litH nx 0 bs hp) = some k → (b < nx ∧ get b hp = some k) ∨ ∃ j, b = nx + j ∧ bs[j]? = some (some k) := fun b k h => by
    rcases litH_get (fun b k h => (hlt b k h).1) bs 0 b k h with h1 | ⟨j, h1, h2⟩
    · exact .inl h1
    · exact .inr ⟨j, by omega, h2⟩
  have hget : ∀ b k, get b (litH nx 0 bs hp) = some k → get (σ b) hc = some k ∧ b < nx + bs.length := fun b k h => by
    rcases hblk b k h with ⟨h1, h2⟩ | ⟨j, rfl, h2⟩
    · rw [hσ b h1, hg b h1]; exact ⟨h2, by omega⟩
    · rw [hσ2]
      have hj : j < bs.length := (List.getElem?_eq_some_iff.1 h2).1
      exact ⟨(hb1 j k h2 (hall j k h2)).2, by omega⟩
  refine ⟨hd, htn, S, fun b => m (σ b), ⟨hm.glob, hm.os, hm.tape, hm.output, hm.size, hm.keep, hm.old, fun b hb => ?_, Nat.le_trans hni (Nat.le_add_right _ _), hm.lt, fun b k hk => ?_, fun b k hk => ?_, fun b b' k k' hk hk' he => ?_⟩, fun t x hx => ?_⟩
  · show m (σ b) = _
    rw [hσ b (by omega)]; exact hm.agree b hb
  · obtain ⟨h1, h2⟩ := hget b k hk
    exact ⟨h2, (hm.live _ _ h1).2⟩
  · obtain ⟨h1, h2⟩ := hget b k hk
    obtain ⟨cur, c1, c2, c3⟩ := hm.cells _ _ h1
    refine ⟨cur, c1, fun j x hx => ?_, c3⟩
    obtain ⟨v, hv, hr⟩ := c2 j x hx
    refine ⟨v, hv, ?_⟩
    have hkx : x.keyed nx 4 = true := by
      rcases hblk b k hk with ⟨h3, h4⟩ | ⟨i, rfl, h4⟩
      · exact List.all_eq_true.1 (hlt b k h4).2 x (List.mem_of_getElem? hx)
      · have h5 := List.all_eq_true.1 (hkb i k h4) x (List.mem_of_getElem? hx)
        have h6 := hr.lower (n := 0) 4 h5
        exact keyed_up h5
    exact hup x v hkx (hr.lower 4 hkx)
  · obtain ⟨h1, _⟩ := hget b k hk
    obtain ⟨h1', _⟩ := hget b' k' hk'
    have hσe := hm.inj _ _ _ _ h1 h1' he
    rcases hblk b k hk with ⟨h3, h4⟩ | ⟨i, rfl, h4⟩ <;> rcases hblk b' k' hk' with ⟨h5, h6⟩ | ⟨i', rfl, h6⟩
    · rw [hσ b h3, hσ b' h5] at hσe; exact hσe
    · rw [hσ b h3, hσ2] at hσe; omega
    · rw [hσ2, hσ b' h5] at hσe; omega
    · rw [hσ2, hσ2] at hσe
      rw [hinj i i' k k' h4 h6 (hall i k h4) (hall i' k' h6) (by omega)]
  · obtain ⟨h1, h2⟩ := hE t x hx
    refine ⟨h1, ?_⟩
    rcases h2 with ⟨h3, h4⟩ | ⟨i, q, k, h3, h4, rfl, h6⟩
    · exact hup x _ h3 h4
    · generalize a.tmps.getD t undef = v at h6
      have hi : i < bs.length := (List.getElem?_eq_some_iff.1 h3).1
      cases h6 with
      | own _ _ hb hmk =>
        have := Rep.own (w := w) (S := S) (m := fun b => m (σ b)) (nx := nx + bs.length) (nx + i) k (by omega) (by show (m (σ (nx + i))).2 ≠ _; rw [hσ2]; exact hmk)
        simp only [hσ2] at this
        exact this
/-- A region that may come up in whatever order, with slice literals that are own rows. -/
theorem aFree_sound (hn : F.n = n) {id : Nat} {K : St → Prop} {st : St} {a : Act} {w : World} {Q : Exit → Act → World → Prop} (hmix : P.follows .mixedOrders = true) (hk : drawOk ops ops.size = true) {xs : List AV} {bs : List (Option Blk)} (hlen : bs.length = ops.size)
    (hlt : ∀ b k, get b st.hp = some k → b < st.nx ∧ k.cs.all (AV.keyed st.nx 4) = true) (hE0 : ∀ t x, st.E t = some x → x.keyed st.nx 4 = true) (hkb : ∀ (i : Nat) (q : Blk), bs[i]? = some (some q) → q.cs.all (AV.keyed 0 4) = true)
    (hrun : FRun P n st.hp st.nx st.E 0 ops.toList xs bs) (st' : St) (hK : K st') (h1 : st'.hp = litH st.nx 0 bs st.hp) (h2 : st'.nx = st.nx + bs.length) (h3 : st'.E = EL (fun _ => true) st.E 0 ops.toList xs)
    (hs : Sim F st a w) (hQ : ∀ st' a' w', K st' → Sim F st' a' w' → Q .normal a' w') : (Code.region id ops true).wp P Q a w := by
  refine wp_region_any hmix ?_
  have hni : F.ni ≤ st.nx := by obtain ⟨_, _, S, m, hm, _⟩ := hs; exact hm.nile
  have main : ∀ (fuel : Nat) (listed : Array Bool) (a : Act) (w : World), cnt listed = fuel → listed.size = ops.size → (∀ i o, ops[i]? = some o → listed.getD i false = true → ∀ e ∈ o.after, Region.binds .any e = true → listed.getD e.on false = true) →
      FSim F (EL (fun j => listed.getD j false) st.E 0 ops.toList xs) st.hp st.nx bs (fun j => listed.getD j false) a w → wpAny P .any ops Q fuel listed a w := by
    have fin : ∀ (listed : Array Bool) (a : Act) (w : World), listed.size = ops.size → (∀ j, j < ops.size → listed.getD j false = true) → FSim F (EL (fun j => listed.getD j false) st.E 0 ops.toList xs) st.hp st.nx bs (fun j => listed.getD j false) a w → Q .normal a w := by
      intro listed a w hsz hli hs
      have hE : EL (fun j => listed.getD j false) st.E 0 ops.toList xs = st'.E := by
        rw [h3]
        funext t
        refine EL_congr _ _ t _ _ _ _ 0 rfl (fun i o ho _ => ?_)
        have hlt : i < ops.size := by have := (List.getElem?_eq_some_iff.1 ho).1; simpa using this
        rw [Nat.zero_add]; exact hli i hlt
      have := fsim_end hlt hni (fun i q hi => hli i (by have := (List.getElem?_eq_some_iff.1 hi).1; omega)) hkb hs
      rw [hE, ← h1, ← h2] at this
      exact hQ st' a w hK this
    intro fuel
    induction fuel with
    | zero =>
      intro listed a w hc hsz hcl hs
      have hli : ∀ j, j < ops.size → listed.getD j false = true := fun j hj => cnt_zero hc j (by omega)
      refine ⟨?_, fin listed a w hsz hli hs⟩
      cases hr : Region.ready .any ops listed with
      | nil => rfl
      | cons j js =>
        have hm : j ∈ Region.ready .any ops listed := by rw [hr]; simp
        obtain ⟨h1, o, ho, _⟩ := mem_ready.1 hm
        have hj : j < ops.size := (Array.getElem?_eq_some_iff.1 ho).1
        have := getD_both' (l := listed) (i := j) (hli j hj)
        rw [this] at h1; cases h1
    | succ fuel ih =>
      intro listed a w hc hsz hcl hs
      refine ⟨fun h0 => fin listed a w hsz (fun j hj => all_listed hk h0 hsz j hj) hs, fun i hi => ?_⟩
      obtain ⟨hun, o, ho, hafter⟩ := mem_ready.1 hi
      have hisz : i < ops.size := (Array.getElem?_eq_some_iff.1 ho).1
      have hunf : listed.getD i false = false := by
        have hlt : i < listed.size := by omega
        simp [hlt] at hun ⊢; exact hun
      have hgt : ∀ j o', ops.toList[j]? = some o' → ops[j]? = some o' := fun j o' h => by rw [Array.getElem?_toList] at h; exact h
      obtain ⟨x, q, hx, hq, hst⟩ := frun_at _ _ _ _ 0 hrun i o (by simpa using ho)
      rw [Nat.zero_add] at hst
      have hst' : FOp P n st.hp st.nx (EL (fun j => listed.getD j false) st.E 0 ops.toList xs) i o x q := by
        refine fop_congr (ops := ops) (fun t ht => ?_) hst
        refine EL_congr _ _ t _ _ _ _ 0 rfl (fun j o' hj hd => ?_)
        have hj' := hgt j o' hj
        simp only [Nat.zero_add]
        by_cases hji : j = i
        · subst hji; rw [hunf]; simp
        · obtain ⟨_, h2⟩ := (drawOk_at hk ho).2.2 hisz j o' t hj' hji hd
          obtain ⟨h3, h4⟩ := h2 ht
          rcases Nat.lt_or_gt_of_ne hji with h5 | h5
          · rw [edge_ready hi (h3 h5)]; symm; exact decide_eq_true h5
          · have hnl : listed.getD j false = false := by
              cases hl : listed.getD j false with
              | false => rfl
              | true =>
                have he := h4 h5
                unfold edge at he
                rw [hj'] at he
                obtain ⟨e, hm, hb⟩ := Array.any_eq_true'.1 he
                simp only [Bool.and_eq_true, beq_iff_eq] at hb
                have := hcl j o' hj' hl e hm hb.1
                rw [hb.2, hunf] at this; cases this
            rw [hnl]; symm; exact decide_eq_false (by omega)
      have hcs := cnt_set (l := listed) (i := i) (by omega) hun
      have hset : ∀ j, (listed.setIfInBounds i true).getD j false = (listed.getD j false || decide (j = i)) := fun j => by
        by_cases hji : j = i
        · subst hji
          have hlt : j < listed.size := by omega
          simp [hlt]
        · rw [getD_set_ne false (Ne.symm hji)]; simp [hji]
      unfold wpOp
      rw [ho]
      simp only
      rw [if_pos (by simp [Region.wanted, hst'.1])]
      subst hn
      refine .inl (fstep hlt hni hq (listed' := fun j => (listed.setIfInBounds i true).getD j false) hset hunf hst' hs (fun a' w' hs' => ?_))
      refine ih (listed.setIfInBounds i true) a' w' (by omega) (by simpa using hsz) (fun j o' hj hl e he hb => ?_) ?_
      · have keep : ∀ q, listed.getD q false = true → (listed.setIfInBounds i true).getD q false = true := fun q hq => getD_set_true hq
        by_cases hji : j = i
        · subst hji
          rw [ho] at hj; injection hj with hj; subst hj
          exact keep _ (hafter e he hb)
        · refine keep _ (hcl j o' hj ?_ e he hb)
          rw [getD_set_ne false (Ne.symm hji)] at hl; exact hl
      · have : EL (fun j => (listed.setIfInBounds i true).getD j false) st.E 0 ops.toList xs = updE (EL (fun j => listed.getD j false) st.E 0 ops.toList xs) o.dst x := by
          funext t
          unfold updE
          by_cases hd : o.dst = some t
          · rw [if_pos hd]
            refine EL_hit _ t _ _ _ 0 i o x (by simpa using ho) hx hd ?_ (fun j o' hj hji hd' => ?_)
            · have hlt : i < listed.size := by omega
              simp [hlt]
            · exact ((drawOk_at hk ho).2.2 hisz j o' t (hgt j o' hj) hji hd').1 hd
          · rw [if_neg hd]
            refine EL_congr _ _ t _ _ _ _ 0 rfl (fun j o' hj hd' => ?_)
            have hj' := hgt j o' hj
            simp only [Nat.zero_add]
            by_cases hji : j = i
            · subst hji; rw [ho] at hj'; injection hj' with hj'; subst hj'; exact absurd hd' hd
            · exact getD_set_ne false (Ne.symm hji)
        rw [this]; exact hs'
  have hrep : ∀ j, (Array.replicate ops.size false).getD j false = false := fun j => by
    rcases Nat.lt_or_ge j ops.size with h1 | h1
    · simp [h1]
    · simp [Array.getElem?_eq_none (by simpa using h1 : (Array.replicate ops.size false).size ≤ j)]
  refine main ops.size (Array.replicate ops.size false) a w.drew ?_ (by simp) (fun i o ho hl => by rw [hrep] at hl; cases hl) ?_
  · unfold cnt
    rw [Array.toList_replicate, List.countP_replicate]; simp
  · have : EL (fun j => (Array.replicate ops.size false).getD j false) st.E 0 ops.toList xs = st.E := funext fun t => EL_none _ t _ _ _ 0 (fun i o _ _ => hrep _)
    rw [this]
    obtain ⟨hd, htn, S, m, hm, hE⟩ := hs
    exact ⟨hd, htn, S, m, fun _ => 0, 0, st.hp, hm.below (below_drew w), fun _ _ => rfl, fun i q _ h => (by have h' : (Array.replicate ops.size false).getD i false = true := h; rw [hrep] at h'; cases h'), fun i j q q' _ _ h => (by have h' : (Array.replicate ops.size false).getD i false = true := h; rw [hrep] at h'; cases h'), fun t x hx => ⟨(hE t x hx).1, .inl ⟨hE0 t x hx, (hE t x hx).2.belowW (below_drew w)⟩⟩⟩
end
section
variable {P : Program} {n : Nat} {F : Fr} {ops : Array Oper}
/-- All variables were made: they become own blocks in the order of the text, and the tail goes on. -/
theorem take_all (hn : F.n = n) {k e : Nat} (hk : drawOkE ops k e = true) (hkd : ∀ j o, j < k → ops[j]? = some o → dstOk n o.dst) {K : St → Prop} {Q : Exit → Act → World → Prop} (hQ : ∀ st' a' w', K st' → Sim F st' a' w' → Q .normal a' w') (fuel : Nat) (listed : Array Bool) (hc : cnt listed = fuel) (hsz : listed.size = ops.size)
    (htl : ∀ j, k + e ≤ j → listed.getD j false = false) (hal : ∀ j, k ≤ j → j < k + e → listed.getD j false = true) (hnl : ∀ j, j < k → j < ops.size → late ops j = false → listed.getD j false = true) (hcl : ∀ i o, ops[i]? = some o → listed.getD i false = true → ∀ e ∈ o.after, Region.binds .any e = true → listed.getD e.on false = true) {a : Act} {w : World} :
    ∀ (q i : Nat) {st : St} {E : Nat → Option AV} {R : Nat → Option (TypeId × Array Value)}, i + q = k + e → k ≤ i → aOps P n ops (ops.toList.drop i) K st → SimR F E st.hp st.nx R a w → (∀ t y, open_ ops (k + e) listed t = false → st.E t = some y → R t = none → E t = some y) →
      (∀ d r, R d = some r → ∃ j o, i ≤ j ∧ j < k + e ∧ ops[j]? = some o ∧ o.dst = some d ∧ o.op = .alloc r.1 ∧ zeroT P r.1 = some (r.2.toList.map .s)) → (∀ j o d, i ≤ j → j < k + e → ops[j]? = some o → o.dst = some d → ∃ r, R d = some r) → Late P ops (k + e) listed st → (∀ j o, k ≤ j → j < i → ops[j]? = some o → dstOk n o.dst) → wpAny P .any ops Q fuel listed a w
  | 0, i, st, E, R, hi, hki, h, hs, hE, hR1, hR2, hJ, hdd => by
    have hie : i = k + e := by omega
    subst hie
    have hks : k + e ≤ ops.size := by
      unfold drawOkE at hk
      simp only [Bool.and_eq_true, decide_eq_true_eq] at hk
      exact hk.1
    have hRn : ∀ d, R d = none := fun d => by
      cases hr : R d with
      | none => rfl
      | some r => obtain ⟨j, o, h1, h2, _⟩ := hR1 d r hr; omega
    have hkd' : ∀ j o, j < k + e → ops[j]? = some o → dstOk n o.dst := fun j o hj ho => by
      rcases Nat.lt_or_ge j k with h1 | h1
      · exact hkd j o h1 ho
      · exact hdd j o h1 hj ho
    refine tail_late hn (drawE_L hk) hkd' hQ fuel (ops.toList.drop (k + e)) (k + e) listed (st := st) (Nat.le_refl _) rfl hks hc hsz (fun j hj => by rw [htl j hj]; symm; exact decide_eq_false (by omega)) (fun j hj hjs hjl => ?_) hcl hJ h ?_
    · rcases Nat.lt_or_ge j k with h1 | h1
      · exact hnl j h1 hjs hjl
      · exact hal j h1 hj
    · obtain ⟨hdf, htn, S, m, γ, hm, hEE, _, _⟩ := hs
      refine ⟨hdf, htn, S, m, hm, fun t y hy => ?_⟩
      rw [less_E] at hy
      split at hy
      · cases hy
      · rename_i hno
        exact hEE t y (hE t y (by simpa using hno) hy (hRn t)) (hRn t)
  | q + 1, i, st, E, R, hi, hki, h, hs, hE, hR1, hR2, hJ, hdd => by
    obtain ⟨o, t, d, ho, hg, hop, hd, hdist, hlook⟩ := alloc_at hk hki (by omega : i < k + e)
    obtain ⟨r, hr⟩ := hR2 i o d (Nat.le_refl _) (by omega) ho hd
    obtain ⟨j, oj, hj1, hj2, hjo, hjd, hjop, hz⟩ := hR1 d r hr
    have hji : j = i := by
      rcases Nat.eq_or_lt_of_le hj1 with h1 | h1
      · exact h1.symm
      · exact absurd rfl (hdist j oj d hjo (by omega) hjd)
    subst hji
    rw [ho] at hjo; injection hjo with hjo; subst hjo
    rw [hop] at hjop; injection hjop with hjop; subst hjop
    obtain ⟨t', zs⟩ := r
    have hlt : j < ops.toList.length := by simpa using (Array.getElem?_eq_some_iff.1 ho).1
    rw [List.drop_eq_getElem_cons hlt] at h
    have hoe : ops.toList[j] = o := by have := (Array.getElem?_eq_some_iff.1 ho).2; simp [this]
    rw [hoe] at h
    unfold aOps at h
    rw [hg] at h
    simp only at h
    replace h := h.resolve_right (fun ⟨r, hr, _⟩ => by rw [hop] at hr; cases hr)
    unfold aOp0 at h
    rw [hop] at h
    have hp0 : aPure P (aEv st.E) st.hp (.alloc t') = none := rfl
    have hh0 : aHeap P (aEv st.E) st.hp st.nx (.alloc t') = some (.ptr st.nx 0, (st.nx, ⟨t', 0, zs.toList.map .s⟩) :: st.hp, st.nx + 1) := by
      show (zeroT P t').map _ = _
      rw [hz]; rfl
    rw [hp0] at h
    simp only [hh0, hd] at h
    refine take_all hn hk hkd hQ fuel listed hc hsz htl hal hnl hcl q (j + 1) (by omega) (by omega) h.2 (hs.take hr) (fun t y ho' hy hRt => ?_) (fun d' r' hr' => ?_) (fun j' o' d' h1 h2 h3 h4 => ?_) (fun j' o' d' h1 h2 h3 h4 => ?_) (fun j' o' h1 h2 h3 => ?_)
    · rw [put_E] at hy
      unfold updE at hy ⊢
      split at hy
      · rename_i he; rw [if_pos he]; exact hy
      · rename_i he
        rw [if_neg he]
        have hne : t ≠ d := fun e => he (by rw [e])
        try dsimp only at hRt
        rw [if_neg hne] at hRt
        exact hE t y ho' hy hRt
    · try dsimp only at hr'
      by_cases hne : d' = d
      · rw [if_pos hne] at hr'; cases hr'
      · rw [if_neg hne] at hr'
        obtain ⟨j', o', h1, h2, h3, h4, h5, h6⟩ := hR1 d' r' hr'
        refine ⟨j', o', ?_, h2, h3, h4, h5, h6⟩
        rcases Nat.eq_or_lt_of_le h1 with h7 | h7
        · subst h7; rw [ho] at h3; injection h3 with h3; subst h3; rw [hd] at h4; injection h4 with h4; exact absurd h4.symm hne
        · omega
    · obtain ⟨r', hr'⟩ := hR2 j' o' d' (by omega) h2 h3 h4
      refine ⟨r', ?_⟩
      try dsimp only
      rw [if_neg (fun e => hdist j' o' d' h3 (by omega) h4 e.symm)]; exact hr'
    · obtain ⟨h5, x, h6, h7⟩ := hJ j' o' d' h1 h2 h3 h4
      obtain ⟨o2, d2, ho2, _, hslot, _, hlk⟩ := late_at h5
      rw [h3] at ho2; injection ho2 with ho2; subst ho2
      have hjk : j' < k := by
        rcases Nat.lt_or_ge j' k with h8 | h8
        · exact h8
        · rw [hal j' h8 h1] at h2; cases h2
      refine ⟨h5, x, ?_, ?_⟩
      · have hev : ∀ o'' ∈ o'.op.operands.toList, aEv ((St.mk st.env ((st.nx, ⟨t', 0, zs.toList.map .s⟩) :: st.hp) (st.nx + 1)).put (some d) (.ptr st.nx 0)).E o'' = aEv st.E o'' := ev_congr (fun t ht => by
          rw [put_E]; unfold updE
          rw [if_neg (fun e => by injection e with e; subst e; exact hlook j' o' hjk h3 (List.mem_append_left _ ht))]; rfl)
        rw [pure_congr o'.op hev, aVal_slot (hp' := st.hp) hslot]; exact h6
      · rw [put_E]; unfold updE
        rw [if_neg (fun e => by injection e with e; exact hdist j' o' d' h3 (by omega) h4 e)]; exact h7
    · rcases Nat.lt_or_ge j' j with h8 | h8
      · exact hdd j' o' h1 h8 h3
      · have : j' = j := by omega
        subst this; rw [ho] at h3; injection h3 with h3; subst h3
        rw [hd]; exact h.1
theorem aDraw_soundE (hn : F.n = n) {id : Nat} {K : St → Prop} {st : St} {a : Act} {w : World} {Q : Exit → Act → World → Prop} (h : P.follows .mixedOrders = true ∧ ∃ k e, drawOkE ops k e = true ∧ aHead P n ops (ops.toList.take k) (fun st => aOps P n ops (ops.toList.drop k) K st) st) (hs : Sim F st a w) (hQ : ∀ st' a' w', K st' → Sim F st' a' w' → Q .normal a' w') :
    (Code.region id ops true).wp P Q a w := by
  obtain ⟨hmix, k, e, hk, hh⟩ := h
  have hL := drawE_L hk
  have hks : k + e ≤ ops.size := by
    have h0 := hk
    unfold drawOkE at h0
    simp only [Bool.and_eq_true, decide_eq_true_eq] at h0
    exact h0.1
  refine wp_region_any hmix ?_
  obtain ⟨xs, st', hxl, hv, htail, he1, he2, hfull⟩ := head_vals _ hh
  have hget : ∀ i, i < k → (ops.toList.take k)[i]? = ops[i]? := fun i hi => by rw [List.getElem?_take, if_pos hi]; simp
  have hgo : ∀ i o, (ops.toList.take k)[i]? = some o → i < k ∧ ops[i]? = some o := fun i o ho => by
    have hi : i < k := by
      rw [List.getElem?_take] at ho
      split at ho
      · assumption
      · cases ho
    exact ⟨hi, by rw [← hget i hi]; exact ho⟩
  have hkd : ∀ j o, j < k → ops[j]? = some o → dstOk n o.dst := fun j o hj ho => by
    obtain ⟨x, _, hst⟩ := head_at _ _ _ 0 hv j o (by rw [hget j hj]; exact ho)
    exact hst.1
  -- what the variables' operations yield
  have hall : ∀ (q i : Nat) (st1 : St), i + q = k + e → k ≤ i → aOps P n ops (ops.toList.drop i) K st1 → ∀ j, i ≤ j → j < k + e → ∃ o t d z, ops[j]? = some o ∧ o.guard = none ∧ o.op = .alloc t ∧ o.dst = some d ∧ d < n ∧ zeroT P t = some z := by
    intro q
    induction q with
    | zero => intro i st1 hi _ _ j h1 h2; omega
    | succ q ih =>
      intro i st1 hi hki hops j h1 h2
      obtain ⟨o, t, d, ho, hg, hop, hd, _⟩ := alloc_at hk hki (by omega : i < k + e)
      have hlt : i < ops.toList.length := by simpa using (Array.getElem?_eq_some_iff.1 ho).1
      rw [List.drop_eq_getElem_cons hlt] at hops
      have hoe : ops.toList[i] = o := by have := (Array.getElem?_eq_some_iff.1 ho).2; simp [this]
      rw [hoe] at hops
      unfold aOps at hops
      rw [hg] at hops
      simp only at hops
      replace hops := hops.resolve_right (fun ⟨r, hr, _⟩ => by rw [hop] at hr; cases hr)
      unfold aOp0 at hops
      rw [hop] at hops
      have hp0 : aPure P (aEv st1.E) st1.hp (.alloc t) = none := rfl
      rw [hp0] at hops
      simp only at hops
      cases hz : zeroT P t with
      | none =>
        have hh0 : aHeap P (aEv st1.E) st1.hp st1.nx (.alloc t) = none := by show (zeroT P t).map _ = _; rw [hz]; rfl
        rw [hh0] at hops
        exact hops.elim
      | some z =>
        have hh0 : aHeap P (aEv st1.E) st1.hp st1.nx (.alloc t) = some (.ptr st1.nx 0, (st1.nx, ⟨t, 0, z⟩) :: st1.hp, st1.nx + 1) := by show (zeroT P t).map _ = _; rw [hz]; rfl
        simp only [hh0, hd] at hops
        rcases Nat.eq_or_lt_of_le h1 with h3 | h3
        · subst h3; exact ⟨o, t, d, z, ho, hg, hop, hd, hops.1, hz⟩
        · exact ih (i + 1) _ (by omega) (by omega) hops.2 j (by omega) h2
  have hall := hall e k st' rfl (Nat.le_refl _) htail
  have main : ∀ (fuel : Nat) (listed : Array Bool) (a : Act) (w : World) (R : Nat → Option (TypeId × Array Value)), cnt listed = fuel → listed.size = ops.size → (∀ i o, ops[i]? = some o → listed.getD i false = true → ∀ e ∈ o.after, Region.binds .any e = true → listed.getD e.on false = true) →
      (∀ i, k + e ≤ i → listed.getD i false = false) → SimR F (EL (fun j => listed.getD j false) st.E 0 (ops.toList.take k) xs) st.hp st.nx R a w →
      (∀ d r, R d = some r → ∃ j o, k ≤ j ∧ j < k + e ∧ listed.getD j false = true ∧ ops[j]? = some o ∧ o.dst = some d ∧ o.op = .alloc r.1 ∧ zeroT P r.1 = some (r.2.toList.map .s)) → (∀ j o d, k ≤ j → j < k + e → listed.getD j false = true → ops[j]? = some o → o.dst = some d → ∃ r, R d = some r) → wpAny P .any ops Q fuel listed a w := by
    have toTail : ∀ (fuel : Nat) (listed : Array Bool) (a : Act) (w : World) (R : Nat → Option (TypeId × Array Value)), cnt listed = fuel → listed.size = ops.size → (∀ i o, ops[i]? = some o → listed.getD i false = true → ∀ e ∈ o.after, Region.binds .any e = true → listed.getD e.on false = true) → (∀ i, k + e ≤ i → listed.getD i false = false) → (∀ j, j < k + e → late ops j = false → listed.getD j false = true) → (∀ j, k ≤ j → j < k + e → listed.getD j false = true) →
        SimR F (EL (fun j => listed.getD j false) st.E 0 (ops.toList.take k) xs) st.hp st.nx R a w →
        (∀ d r, R d = some r → ∃ j o, k ≤ j ∧ j < k + e ∧ listed.getD j false = true ∧ ops[j]? = some o ∧ o.dst = some d ∧ o.op = .alloc r.1 ∧ zeroT P r.1 = some (r.2.toList.map .s)) → (∀ j o d, k ≤ j → j < k + e → listed.getD j false = true → ops[j]? = some o → o.dst = some d → ∃ r, R d = some r) → wpAny P .any ops Q fuel listed a w := by
      intro fuel listed a w R hc hsz hcl htl hnl hal hs hR1 hR2
      have hful := hfull (fun _ => true) (fun _ => rfl) 0
      rw [← he1, ← he2] at hs
      refine take_all hn hk hkd hQ fuel listed hc hsz htl hal (fun j hj _ hjl => hnl j (by omega) hjl) hcl e k rfl (Nat.le_refl _) htail hs (fun t y ho hy _ => ?_) (fun d r hr => ?_) (fun j o d h1 h2 h3 h4 => hR2 j o d h1 h2 (hal j h1 h2) h3 h4) (fun j o d hj hjl ho hd => ?_) (fun j o h1 h2 => by omega)
      · rw [← hy, hful]
        refine EL_congr _ _ t _ _ _ _ 0 rfl (fun i oi hi hdi => ?_)
        obtain ⟨hik, hi'⟩ := hgo i oi hi
        simp only [Nat.zero_add]
        cases hl : listed.getD i false with
        | true => rfl
        | false =>
          have := open_iff.2 ⟨i, oi, (by omega : i < k + e), hl, hi', hdi⟩
          rw [ho] at this; cases this
      · obtain ⟨j, o, h1, h2, _, h4⟩ := hR1 d r hr
        exact ⟨j, o, h1, h2, h4⟩
      · have hjk : j < k := by
          rcases Nat.lt_or_ge j k with h1 | h1
          · exact h1
          · rw [hal j h1 hj] at hjl; cases hjl
        have hlt : late ops j = true := by
          cases hl : late ops j with
          | true => rfl
          | false => rw [hnl j hj hl] at hjl; cases hjl
        obtain ⟨o', d', ho', hg, hslot, hd', hlook⟩ := late_at hlt
        rw [ho] at ho'; injection ho' with ho'; subst ho'
        obtain ⟨x, hx, hst⟩ := head_at _ _ _ 0 hv j o (by rw [hget j hjk]; exact ho)
        have hst2 := hst.2
        rw [hg] at hst2
        have hval := evals_slot hslot hst2
        refine ⟨hlt, x, ?_, ?_⟩
        · have hev : ∀ o' ∈ o.op.operands.toList, aEv st'.E o' = aEv (EL (fun i => decide (i < 0 + j)) st.E 0 (ops.toList.take k) xs) o' := ev_congr (fun t ht => by
            rw [hful]
            refine EL_congr _ _ t _ _ _ _ 0 rfl (fun i oi hi hdi => ?_)
            obtain ⟨_, hi'⟩ := hgo i oi hi
            rcases Nat.lt_or_ge i j with h1 | h1
            · symm; simp only [Nat.zero_add]; exact decide_eq_true h1
            · exact absurd (List.mem_append_left _ ht) (hlook i oi t h1 hi' hdi))
          rw [pure_congr o.op hev, aVal_slot (hp' := st.hp) hslot]; exact hval
        · rw [hful]
          exact EL_hit _ d _ _ _ 0 j o x (by rw [hget j hjk]; exact ho) hx hd rfl (fun i oi hi hij hdi => by
            obtain ⟨_, hi'⟩ := hgo i oi hi
            exact ((drawOkL_at hL ho).2.2 (by omega) i oi d hi' hij hdi).1 hd)
    intro fuel
    induction fuel with
    | zero =>
      intro listed a w R hc hsz hcl htl hs hR1 hR2
      exact toTail 0 listed a w R hc hsz hcl htl (fun j hj _ => cnt_zero hc j (by omega)) (fun j _ hj => cnt_zero hc j (by omega)) hs hR1 hR2
    | succ fuel ih =>
      intro listed a w R hc hsz hcl htl hs hR1 hR2
      by_cases hhead : (∀ j, j < k + e → late ops j = false → listed.getD j false = true) ∧ ∀ j, k ≤ j → j < k + e → listed.getD j false = true
      · exact toTail _ listed a w R hc hsz hcl htl hhead.1 hhead.2 hs hR1 hR2
      · refine ⟨fun h0 => ?_, fun i hi => ?_⟩
        · exact absurd ⟨fun j hj _ => all_listedL hL h0 hsz j (by omega), fun j _ hj => all_listedL hL h0 hsz j (by omega)⟩ hhead
        · obtain ⟨hun, o, ho, hafter⟩ := mem_ready.1 hi
          have hisz : i < ops.size := (Array.getElem?_eq_some_iff.1 ho).1
          have hunf : listed.getD i false = false := by
            have hlt : i < listed.size := by omega
            simp [hlt] at hun ⊢; exact hun
          have hike : i < k + e := by
            rcases Nat.lt_or_ge i (k + e) with h1 | h1
            · exact h1
            · refine absurd ⟨fun j hj hjl => ?_, fun j hkj hj => ?_⟩ hhead
              · rcases (drawOkL_at hL ho).2.1 h1 j (by omega) with h2 | ⟨_, h2, _⟩
                · exact edgeT_ready hcl hi h2
                · rw [h2] at hjl; cases hjl
              · rcases (drawOkL_at hL ho).2.1 h1 j (by omega) with h2 | ⟨_, h2, _⟩
                · exact edgeT_ready hcl hi h2
                · obtain ⟨o1, t1, d1, ho1, _, hop1, _⟩ := alloc_at hk hkj hj
                  obtain ⟨o2, d2, ho2, _, hslot, _⟩ := late_at h2
                  rw [ho1] at ho2; injection ho2 with ho2; subst ho2
                  rw [hop1] at hslot; simp [slotOp] at hslot
          have hcs := cnt_set (l := listed) (i := i) (by omega) hun
          have keep : ∀ q, listed.getD q false = true → (listed.setIfInBounds i true).getD q false = true := fun q hq => getD_set_true hq
          have hiset : (listed.setIfInBounds i true).getD i false = true := by
            have hlt : i < listed.size := by omega
            simp [hlt]
          have hcl' : ∀ q o, ops[q]? = some o → (listed.setIfInBounds i true).getD q false = true → ∀ e ∈ o.after, Region.binds .any e = true → (listed.setIfInBounds i true).getD e.on false = true := fun j o' hj hl e he hb => by
            by_cases hji : j = i
            · subst hji
              rw [ho] at hj; injection hj with hj; subst hj
              exact keep _ (hafter e he hb)
            · refine keep _ (hcl j o' hj ?_ e he hb)
              rw [getD_set_ne false (Ne.symm hji)] at hl; exact hl
          have htl' : ∀ j, k + e ≤ j → (listed.setIfInBounds i true).getD j false = false := fun j hj => by rw [getD_set_ne false (by omega)]; exact htl j hj
          by_cases hik : i < k
          · -- an operation of the head
            obtain ⟨x, hx, hst⟩ := head_at _ _ _ 0 hv i o (by rw [hget i hik]; exact ho)
            have hst' : StepV P n ops st.hp st.nx (EL (fun j => listed.getD j false) st.E 0 (ops.toList.take k) xs) o x := by
              refine step_congr (fun t ht => ?_) hst
              refine EL_congr _ _ t _ _ _ _ 0 rfl (fun j o' hj hd => ?_)
              obtain ⟨hjk, hj'⟩ := hgo j o' hj
              simp only [Nat.zero_add]
              by_cases hji : j = i
              · subst hji; rw [hunf]; simp
              · obtain ⟨_, h2⟩ := (drawOkL_at hL ho).2.2 hike j o' t hj' hji hd
                obtain ⟨h3, h4⟩ := h2 ht
                rcases Nat.lt_or_gt_of_ne hji with h5 | h5
                · rw [edgeT_ready hcl hi (h3 h5)]; symm; exact decide_eq_true h5
                · have hnl : listed.getD j false = false := by
                    cases hl : listed.getD j false with
                    | false => rfl
                    | true =>
                      have := edgeT_before (h4 h5) (fun q => listed.getD q false = true) (fun q o'' ho'' hq e he' hb => hcl q o'' ho'' hq e he' hb) (fun o'' ho'' e he' hb => hcl j o'' ho'' hl e he' hb)
                      rw [hunf] at this; cases this
                  rw [hnl]; symm; exact decide_eq_false (by omega)
            refine stepV_soundR hn ho hst' (fun d r hr => ?_) hs (fun a' w' hs' => ?_)
            · obtain ⟨j, oj, h1, h2, _, h4, h5, _⟩ := hR1 d r hr
              obtain ⟨oj', t', d', ho', _, _, hd', hdist, hlook⟩ := alloc_at hk h1 h2
              rw [h4] at ho'; injection ho' with ho'; subst ho'
              rw [h5] at hd'; injection hd' with hd'; subst hd'
              exact ⟨hlook i o hik ho, fun hd => hdist i o d ho (by omega) hd rfl⟩
            · refine ih (listed.setIfInBounds i true) a' w' R (by omega) (by simpa using hsz) hcl' htl' ?_ (fun d r hr => ?_) (fun j oj d h1 h2 h3 h4 h5 => ?_)
              · have : EL (fun j => (listed.setIfInBounds i true).getD j false) st.E 0 (ops.toList.take k) xs = updE (EL (fun j => listed.getD j false) st.E 0 (ops.toList.take k) xs) o.dst x := by
                  funext t
                  unfold updE
                  by_cases hd : o.dst = some t
                  · rw [if_pos hd]
                    refine EL_hit _ t _ _ _ 0 i o x (by rw [hget i hik]; exact ho) hx hd (by simpa using hiset) (fun j o' hj hji hd' => ?_)
                    obtain ⟨_, hj'⟩ := hgo j o' hj
                    exact ((drawOkL_at hL ho).2.2 hike j o' t hj' hji hd').1 hd
                  · rw [if_neg hd]
                    refine EL_congr _ _ t _ _ _ _ 0 rfl (fun j o' hj hd' => ?_)
                    obtain ⟨hjk, hj'⟩ := hgo j o' hj
                    simp only [Nat.zero_add]
                    by_cases hji : j = i
                    · subst hji; rw [ho] at hj'; injection hj' with hj'; subst hj'; exact absurd hd' hd
                    · exact getD_set_ne false (Ne.symm hji)
                rw [this]; exact hs'
              · obtain ⟨j, oj, h1, h2, h3, h4⟩ := hR1 d r hr
                exact ⟨j, oj, h1, h2, keep j h3, h4⟩
              · rw [getD_set_ne false (by omega)] at h3
                exact hR2 j oj d h1 h2 h3 h4 h5
          · -- a variable is made
            obtain ⟨oi, t, d, z, hoi, hg, hop, hd, hdn, hz⟩ := hall i (by omega) hike
            rw [ho] at hoi; injection hoi with hoi; subst hoi
            obtain ⟨oi', t', d', hoi', _, _, hd', hdist, hlook⟩ := alloc_at hk (by omega : k ≤ i) hike
            rw [ho] at hoi'; injection hoi' with hoi'; subst hoi'
            rw [hd] at hd'; injection hd' with hd'; subst hd'
            have hRd : R d = none := by
              cases hr : R d with
              | none => rfl
              | some r =>
                obtain ⟨j, oj, h1, h2, h3, h4, h5, _⟩ := hR1 d r hr
                have hji : j = i := by
                  by_cases hji : j = i
                  · exact hji
                  · exact absurd rfl (hdist j oj d h4 hji h5)
                subst hji; rw [hunf] at h3; cases h3
            refine allocR hn ho hg hop hd hdn hz hRd hs (fun zs hzs a' w' hs' => ?_)
            refine ih (listed.setIfInBounds i true) a' w' (fun x => if x = d then some (t, zs) else R x) (by omega) (by simpa using hsz) hcl' htl' ?_ (fun d' r hr => ?_) (fun j oj d' h1 h2 h3 h4 h5 => ?_)
            · exact (show EL (fun j => (listed.setIfInBounds i true).getD j false) st.E 0 (ops.toList.take k) xs = EL (fun j => listed.getD j false) st.E 0 (ops.toList.take k) xs from by
                funext t
                refine EL_congr _ _ t _ _ _ _ 0 rfl (fun j o' hj hd' => ?_)
                obtain ⟨hjk, hj'⟩ := hgo j o' hj
                simp only [Nat.zero_add]
                exact getD_set_ne false (by omega)) ▸ hs'
            · try dsimp only at hr
              by_cases hne : d' = d
              · rw [if_pos hne] at hr; injection hr with hr; subst hr
                exact ⟨i, o, by omega, hike, hiset, ho, by rw [hne]; exact hd, hop, by rw [hz, hzs]⟩
              · rw [if_neg hne] at hr
                obtain ⟨j, oj, h1, h2, h3, h4⟩ := hR1 d' r hr
                exact ⟨j, oj, h1, h2, keep j h3, h4⟩
            · try dsimp only
              by_cases hji : j = i
              · subst hji; rw [ho] at h4; injection h4 with h4; subst h4
                rw [hd] at h5; injection h5 with h5
                exact ⟨_, if_pos h5.symm⟩
              · rw [getD_set_ne false (Ne.symm hji)] at h3
                obtain ⟨r, hr⟩ := hR2 j oj d' h1 h2 h3 h4 h5
                by_cases hne : d' = d
                · exact ⟨_, if_pos hne⟩
                · exact ⟨r, by rw [if_neg hne]; exact hr⟩
  have hs0 : SimR F st.E st.hp st.nx (fun _ => none) a w.drew := by
    obtain ⟨hd, htn, S, m, hm, hE⟩ := hs
    exact ⟨hd, htn, S, m, fun _ => 0, hm.below (below_drew w), fun t x h _ => ⟨(hE t x h).1, (hE t x h).2.belowW (below_drew w)⟩, fun d r h => (by cases h), fun d d' r r' h => (by cases h)⟩
  have hrep : ∀ j, (Array.replicate ops.size false).getD j false = false := fun j => by
    rcases Nat.lt_or_ge j ops.size with h1 | h1
    · simp [h1]
    · simp [Array.getElem?_eq_none (by simpa using h1 : (Array.replicate ops.size false).size ≤ j)]
  refine main ops.size (Array.replicate ops.size false) a w.drew (fun _ => none) ?_ (by simp) (fun i o ho hl => by rw [hrep] at hl; cases hl) (fun i _ => hrep i) ?_ (fun d r h => (by cases h)) (fun j o d _ _ hl => by rw [hrep] at hl; cases hl)
  · unfold cnt
    rw [Array.toList_replicate, List.countP_replicate]; simp
  · have : EL (fun j => (Array.replicate ops.size false).getD j false) st.E 0 (ops.toList.take k) xs = st.E := funext fun t => EL_none _ t _ _ _ 0 (fun i o _ _ => hrep _)
    rw [this]; exact hs0
theorem aDraw_sound (hn : F.n = n) {id : Nat} {K : St → Prop} {st : St} {a : Act} {w : World} {Q : Exit → Act → World → Prop} (h : aDraw P n ops K st) (hs : Sim F st a w) (hQ : ∀ st' a' w', K st' → Sim F st' a' w' → Q .normal a' w') :
    (Code.region id ops true).wp P Q a w := by
  rcases h with ⟨hmix, k, hk | hk | ⟨e, hk⟩, hh⟩ | ⟨hmix, hk, xs, bs, st', h1, h2, h3, h4, h5, h6, h7, h8, h9⟩
  rotate_right
  · exact aFree_sound hn hmix hk h1 h2 h3 h4 h5 st' h6 h7 h8 h9 hs hQ
  · exact aDraw_sound1 hn ⟨hmix, k, hk, hh⟩ hs hQ
  · exact aDraw_soundL hn ⟨hmix, k, hk, hh⟩ hs hQ
  · exact aDraw_soundE hn ⟨hmix, k, e, hk, hh⟩ hs hQ
end
end Go.Proofs.YtdfokoapenhalaaDoor.Ab
end
section
namespace Go.Proofs.YtdfokoapenhalaaDoor.Ab
open Go Go.RowKit Go.Shelf
section
variable {P : Program} {n : Nat} {F : Fr}
theorem awp_sound (hn : F.n = n) {lo : Nat} (hlo : F.ni ≤ lo) : ∀ (c : Code) {Q : Exit → St → Prop} {st : St} {a : Act} {w : World}, awp P n lo c Q st → Sim F st a w → c.wp P (fun e a' w' => ∃ st', Q e st' ∧ Sim F st' a' w') a w := by
  intro c
  induction c with
  | skip => intro Q st a w h hs; exact wp_skip ⟨st, h, hs⟩
  | region id ops draw =>
    intro Q st a w h hs
    unfold awp at h
    cases draw with
    | true => exact aDraw_sound hn h hs (fun st' a' w' hk hs' => ⟨st', hk, hs'⟩)
    | false => exact wp_region_list (aOps_sound hn ops.toList h hs (fun st' a' w' hk hs' => ⟨st', hk, hs'⟩))
  | seq x y ihx ihy =>
    intro Q st a w h hs
    refine wp_seq (wp_mono (ihx h hs) fun e a' w' ⟨st', hq, hs'⟩ => ?_)
    cases e <;> first
      | (obtain ⟨st'', ht, hq⟩ := hq; exact ihy hq (ht.2 _ _ _ hlo hs'))
      | exact ⟨st', hq, hs'⟩
  | cond c x y ihx ihy =>
    intro Q st a w h hs
    unfold awp at h
    split at h
    · rename_i b hc
      have hs0 := hs
      obtain ⟨hd, htn, S, m, hm, hE⟩ := hs
      have hv : a.eval c = .bool b := by
        have := Sim.ev hm hE c _ hc
        obtain ⟨v, hv⟩ : ∃ v, a.eval c = v := ⟨_, rfl⟩
        rw [hv] at this ⊢
        cases this; rfl
      exact wp_cond_split hv (fun ht => ihx (h.1 ht) hs0) (fun hf => ihy (h.2 hf) hs0)
    · exact h.elim
  | block id c ih =>
    intro Q st a w h hs
    refine wp_block (wp_mono (ih h hs) fun e a' w' ⟨st', hq, hs'⟩ => ?_)
    cases e with
    | exit id' =>
      have hq' : if id' = id then Q .normal st' else Q (.exit id') st' := hq
      show if id' = id then _ else _
      split
      · rename_i he; rw [if_pos he] at hq'; exact ⟨st', hq', hs'⟩
      · rename_i he; rw [if_neg he] at hq'; exact ⟨st', hq', hs'⟩
    | _ => exact ⟨st', hq, hs'⟩
  | loop c ih =>
    intro Q st a w h hs
    obtain ⟨I, ⟨k, st0, hk, ht0⟩, hround⟩ := h
    refine wp_loop_ghost (fun k a w => ∃ st, I k st ∧ Sim F st a w) k ⟨st0, hk, ht0.2 _ _ _ hlo hs⟩ fun k a w ⟨st, hI, hs⟩ => wp_mono (ih (hround k st hI) hs) fun e a' w' ⟨st', hq, hs'⟩ => ?_
    cases e <;> first
      | (obtain ⟨k', st'', hlt, hI', ht'⟩ := hq; exact ⟨k', hlt, st'', hI', ht'.2 _ _ _ hlo hs'⟩)
      | exact ⟨st', hq, hs'⟩
  | exit id => intro Q st a w h hs; exact wp_exit ⟨st, h, hs⟩
  | label l => intro Q st a w h hs; exact wp_label ⟨st, h, hs⟩
  | scope c ih =>
    intro Q st a w h hs
    refine wp_scope_straight (wp_mono (ih h hs) fun e a' w' ⟨st', hq, hs'⟩ => ?_)
    cases e <;> first
      | exact hq.elim
      | exact ⟨st', hq, hs'⟩
  | ret => intro Q st a w h hs; exact wp_ret ⟨st, h, hs⟩
  | rangeFunc f ps x y ihx ihy => intro Q st a w h hs; exact h.elim
  | goto l => intro Q st a w h hs; exact h.elim
  | refuse why => intro Q st a w h hs; exact h.elim
/-- A function does what its abstract run says. -/
theorem spec_of_awp {f : FuncId} {fn : Func} {c : Code} {args : List AV} {hp : List (Nat × Blk)} {nx : Nat} {r : AV} {hp' : List (Nat × Blk)} {nx' : Nat} {rs : List ResultVar}
    (hf : P.funcs[f]? = some fn) (hname : (fn.name == "runtime.NumGoroutine") = false) (hb : fn.body = some c) (hn : fn.ntmps = n) (hrs : fn.results.toList = rs) (ha : args.length ≤ n)
    (h : awp P n nx c (aRet P rs nx r hp' nx') ⟨initEnv 0 args, hp, nx⟩) : Spec P f args hp nx r hp' nx' := by
  refine ⟨enters_of hf hname hb, fun w S m vs hm hr => ?_⟩
  refine calls_of_wp hf hb ?_
  rw [hn]
  let F : Fr := ⟨w, Lv hp m, S, n, m, nx⟩
  have hm' : Mem F hp nx w S m := ⟨hm.glob, hm.os, hm.tape, hm.output, hm.size, hm.keep, hm.old, hm.agree, hm.nile, hm.lt, hm.live, hm.cells, hm.inj⟩
  have hs := sim_init F args hp nx vs w S m hm' hr ha
  refine wp_mono (awp_sound (F := F) rfl (Nat.le_refl _) c h hs) fun e a' w' ⟨st', hq, hs'⟩ => ?_
  have := ret_sound (F := F) (fn := fn) hrs rfl hq hs'
  cases e <;> first
    | exact hq.elim
    | (obtain ⟨h1, v, h2, v', S', m', h3, h4, h5⟩ := this
       exact ⟨h1, v, h2, v', S', m', h3, ⟨h4.glob, h4.os, h4.tape, h4.output, h4.size, h4.keep, h4.old, h4.agree, h4.nile, h4.lt, h4.live, h4.cells, h4.inj⟩, h5⟩)
/-- The slots that are still looked at. -/
def keepE : List Nat → List (Nat × AV) → List (Nat × AV)
  | [], _ => []
  | k :: ks, env => match get k env with
    | some x => (k, x) :: keepE ks env
    | none => keepE ks env
theorem get_keepE (env : List (Nat × AV)) (t : Nat) (x : AV) : ∀ ks, get t (keepE ks env) = some x → get t env = some x
  | [], h => by cases h
  | k :: ks, h => by
    unfold keepE at h
    split at h
    · rename_i y hy
      have h' : (if t = k then some y else get t (keepE ks env)) = some x := h
      split at h'
      · rename_i e; subst e; rw [hy]; exact h'
      · exact get_keepE env t x ks h'
    · exact get_keepE env t x ks h
theorem to_keep {lo : Nat} {st : St} (ks : List Nat) (h : lo ≤ st.nx) : St.to lo st ⟨keepE ks st.env, st.hp, st.nx⟩ :=
  ⟨h, fun F a w _ ⟨hd, htn, S, m, hm, hE⟩ => ⟨hd, htn, S, m, hm, fun t x hx => hE t x (get_keepE _ _ _ ks hx)⟩⟩
/-- A state with less in it: slots and blocks are forgotten, the next number is put back. -/
theorem to_less {lo : Nat} {st st' : St} (h : lo ≤ st'.nx) (hE : ∀ t x, get t st'.env = some x → get t st.env = some x ∧ x.keyed st'.nx 4 = true) (hH : ∀ b k, get b st'.hp = some k → get b st.hp = some k ∧ b < st'.nx ∧ k.cs.all (AV.keyed st'.nx 4) = true) : St.to lo st st' :=
  ⟨h, fun F a w hlo ⟨hd, htn, S, m, hm, hE'⟩ => ⟨hd, htn, S, m, hm.lower (Nat.le_trans hlo h) hH, fun t x hx => ⟨(hE' t x (hE t x hx).1).1, (hE' t x (hE t x hx).1).2.lower 4 (hE t x hx).2⟩⟩⟩
theorem to_sub {lo : Nat} {st st' : St} (h : lo ≤ st'.nx) (hE : subE st'.nx st.env st'.env) (hH : subH st'.nx st.hp st'.hp) : St.to lo st st' := to_less h (subE_spec hE) (subH_spec hH)

variable {lo : Nat} {Q : Exit → St → Prop} {st : St}
theorem awp_seq {x y : Code} (h : ∀ K : St → Prop, (∀ st st', St.to lo st st' → awp P n lo y Q st' → K st) → awp P n lo x (aThen K Q) st) : awp P n lo (.seq x y) Q st :=
  h _ (fun st st' h1 h2 => ⟨st', h1, h2⟩)
theorem awp_go {A : St → Prop} {K : St → Prop} (hK : ∀ st st', St.to lo st st' → A st' → K st) (ks : List Nat) (hl : lo ≤ st.nx) (h : A ⟨keepE ks st.env, st.hp, st.nx⟩) : K st := hK _ _ (to_keep ks hl) h
theorem awp_to {A : St → Prop} {K : St → Prop} (hK : ∀ st st', St.to lo st st' → A st' → K st) (st' : St) (hs : St.to lo st st') (h : A st') : K st := hK _ _ hs h
theorem awp_region {id : Nat} {ops : List Oper} (h : aOps P n ops.toArray ops (Q .normal) st) : awp P n lo (.region id ops.toArray false) Q st := by
  unfold awp; rw [if_neg (by decide)]; simpa using h
theorem awp_draw {id : Nat} {ops : List Oper} (k : Nat) (hm : P.follows .mixedOrders = true) (hk : drawOk ops.toArray k = true) (h : aHead P n ops.toArray (ops.take k) (fun st => aOps P n ops.toArray (ops.drop k) (Q .normal) st) st) : awp P n lo (.region id ops.toArray true) Q st := by
  unfold awp; rw [if_pos rfl]; exact .inl ⟨hm, k, .inl hk, by simpa using h⟩
theorem awp_drawL {id : Nat} {ops : List Oper} (k : Nat) (hm : P.follows .mixedOrders = true) (hk : drawOkL ops.toArray k = true) (h : aHead P n ops.toArray (ops.take k) (fun st => aOps P n ops.toArray (ops.drop k) (Q .normal) st) st) : awp P n lo (.region id ops.toArray true) Q st := by
  unfold awp; rw [if_pos rfl]; exact .inl ⟨hm, k, .inr (.inl hk), by simpa using h⟩
theorem awp_drawE {id : Nat} {ops : List Oper} (k e : Nat) (hm : P.follows .mixedOrders = true) (hk : drawOkE ops.toArray k e = true) (h : aHead P n ops.toArray (ops.take k) (fun st => aOps P n ops.toArray (ops.drop k) (Q .normal) st) st) : awp P n lo (.region id ops.toArray true) Q st := by
  unfold awp; rw [if_pos rfl]; exact .inl ⟨hm, k, .inr (.inr ⟨e, hk⟩), by simpa using h⟩
/-- Does an operation make or write own blocks? -/
def heapy : Op → Bool
  | .alloc _ => true
  | .store _ _ _ => true
  | .makeSlice _ _ _ => true
  | .makeMap _ _ => true
  | .mapUpdate _ _ _ _ => true
  | .buildSlice _ _ _ => true
  | .call c => (match c.callee with
    | .builtin .append => true
    | .builtin .copy => true
    | _ => false)
  | _ => false
def headN : List Oper → Nat
  | [] => 0
  | o :: l => if heapy o.op = true then 0 else headN l + 1
/-- Such a region's operations: those that write nothing, and from the first other one on all in the order of the text. -/
def aMix (P : Program) (n : Nat) (ops : Array Oper) : List Oper → (St → Prop) → St → Prop
  | [], K, st => K st
  | o :: l, K, st => if heapy o.op = true then aOps P n ops (o :: l) K st else match o.guard with
    | none => aOpH P n o (aMix P n ops l K) (aMix P n ops l K) st
    | some (j, want) => match yv (((ops[j]?).bind (·.dst)).bind st.E) with
      | some b => if b = some want then aOpH P n o (aMix P n ops l K) (aMix P n ops l K) st else dstOk n o.dst ∧ aMix P n ops l K (st.put o.dst (.s undef))
      | none => False
def aLockM (P : Program) (n : Nat) (ops : Array Oper) (l : List Oper) (K : St → Prop) (st : St) : Prop := aMix P n ops l K st
theorem aMix_nil (P : Program) (n : Nat) (ops : Array Oper) (K : St → Prop) (st : St) : aMix P n ops [] K st = K st := rfl
theorem aMix_cons (P : Program) (n : Nat) (ops : Array Oper) (o : Oper) (l : List Oper) (K : St → Prop) (st : St) : aMix P n ops (o :: l) K st = if heapy o.op = true then aOps P n ops (o :: l) K st else match o.guard with
    | none => aOpH P n o (aMix P n ops l K) (aLockM P n ops l K) st
    | some (j, want) => match yv (((ops[j]?).bind (·.dst)).bind st.E) with
      | some b => if b = some want then aOpH P n o (aMix P n ops l K) (aLockM P n ops l K) st else dstOk n o.dst ∧ aMix P n ops l K (st.put o.dst (.s undef))
      | none => False := rfl
theorem mix_head (ops : Array Oper) (K : St → Prop) : ∀ (l : List Oper), aMix P n ops l K = aHead P n ops (l.take (headN l)) (fun st => aOps P n ops (l.drop (headN l)) K st)
  | [] => rfl
  | o :: l => by
    funext st
    unfold aMix headN
    by_cases h : heapy o.op = true
    · rw [if_pos h, if_pos h]; rfl
    · rw [if_neg h, if_neg h, mix_head ops K l]; rfl
theorem awp_mix {id : Nat} {ops : List Oper} (hm : P.follows .mixedOrders = true) (hk : drawOk ops.toArray (headN ops) = true) (h : aMix P n ops.toArray ops (Q .normal) st) : awp P n lo (.region id ops.toArray true) Q st :=
  awp_draw (headN ops) hm hk (by rw [mix_head] at h; exact h)
theorem awp_mixL {id : Nat} {ops : List Oper} (hm : P.follows .mixedOrders = true) (hk : drawOkL ops.toArray (headN ops) = true) (h : aMix P n ops.toArray ops (Q .normal) st) : awp P n lo (.region id ops.toArray true) Q st :=
  awp_drawL (headN ops) hm hk (by rw [mix_head] at h; exact h)
theorem awp_mixE {id : Nat} {ops : List Oper} (e : Nat) (hm : P.follows .mixedOrders = true) (hk : drawOkE ops.toArray (headN ops) e = true) (h : aMix P n ops.toArray ops (Q .normal) st) : awp P n lo (.region id ops.toArray true) Q st :=
  awp_drawE (headN ops) e hm hk (by rw [mix_head] at h; exact h)
theorem awp_cond {c : Operand} {x y : Code} (b : Bool) (hc : aEv st.E c = some (.s (.bool b))) (ht : b = true → awp P n lo x Q st) (hf : b = false → awp P n lo y Q st) : awp P n lo (.cond c x y) Q st := by
  unfold awp; rw [hc]; exact ⟨ht, hf⟩
theorem awp_condT {c : Operand} {x y : Code} {b : Bool} (hc : aEv st.E c = some (.s (.bool b))) (hb : b = true) (ht : awp P n lo x Q st) : awp P n lo (.cond c x y) Q st :=
  awp_cond b hc (fun _ => ht) (fun h => by rw [hb] at h; cases h)
theorem awp_condF {c : Operand} {x y : Code} {b : Bool} (hc : aEv st.E c = some (.s (.bool b))) (hb : b = false) (ht : awp P n lo y Q st) : awp P n lo (.cond c x y) Q st :=
  awp_cond b hc (fun h => by rw [hb] at h; cases h) (fun _ => ht)
theorem awp_block {id : Nat} {c : Code} (h : awp P n lo c (aIn id Q) st) : awp P n lo (.block id c) Q st := h
theorem awp_skip (h : Q .normal st) : awp P n lo .skip Q st := h
theorem awp_exit {id : Nat} (h : Q (.exit id) st) : awp P n lo (.exit id) Q st := h
theorem awp_ret (h : Q .ret st) : awp P n lo .ret Q st := h
theorem awp_scope {c : Code} (h : awp P n lo c (aNoGoto Q) st) : awp P n lo (.scope c) Q st := h
theorem in_normal {id : Nat} (h : Q .normal st) : aIn id Q .normal st := h
theorem in_ret {id : Nat} (h : Q .ret st) : aIn id Q .ret st := h
theorem in_exit {id : Nat} (h : Q .normal st) : aIn id Q (.exit id) st := by
  show (if id = id then Q .normal st else Q (.exit id) st)
  rw [if_pos rfl]; exact h
theorem in_other {id id' : Nat} (hne : id' ≠ id) (h : Q (.exit id') st) : aIn id Q (.exit id') st := by
  show (if id' = id then Q .normal st else Q (.exit id') st)
  rw [if_neg hne]; exact h
theorem then_normal {K : St → Prop} (h : K st) : aThen K Q .normal st := h
theorem then_ret {K : St → Prop} (h : Q .ret st) : aThen K Q .ret st := h
theorem then_exit {K : St → Prop} {id : Nat} (h : Q (.exit id) st) : aThen K Q (.exit id) st := h
/-- A loop whose states are told by a value: what the slots hold at its head. -/
theorem awp_loop {α : Type} {c : Code} (f : α → St) (inv : Nat → α → Prop) (k0 : Nat) (x0 : α) (h0 : inv k0 x0) (hs : St.to lo st (f x0))
    (round : ∀ k x, inv k x → ∀ K : St → Prop, (∀ st' k' x', k' < k → inv k' x' → St.to lo st' (f x') → K st') → awp P n lo c (aThen K Q) (f x)) : awp P n lo (.loop c) Q st := by
  refine ⟨fun k st => ∃ x, inv k x ∧ st = f x, ⟨k0, f x0, ⟨x0, h0, rfl⟩, hs⟩, fun k st ⟨x, hx, e⟩ => ?_⟩
  subst e
  exact round k x hx _ (fun st' k' x' h1 h2 h3 => ⟨k', f x', h1, ⟨x', h2, rfl⟩, h3⟩)
theorem frame_nil : ∀ hp : List (Nat × Blk), frame [] hp = hp
  | [] => rfl
  | (b, k) :: l => by show (b, k) :: frame [] l = _; rw [frame_nil l]
theorem get_nil (b : Nat) (k : Blk) (p : Prop) (h : get b [] = some k) : p := by cases h
theorem call_sub {f : FuncId} {args args' : List AV} {hp : List (Nat × Blk)} {nx : Nat} {K : AV → List (Nat × Blk) → Nat → Prop} {r : AV} (hs : SubL args args') (h : Spec P f args' [] nx r [] nx) (hk : K r hp nx) : CallP P f args hp nx K :=
  ⟨args', [], r, [], nx, hs, h, (fun b k hg => get_nil b k _ hg), (fun b k hg _ => get_nil b k _ hg), (by rw [List.nil_append, frame_nil]; exact hk)⟩
/-- A call of a function that is given no blocks and hands none back. -/
theorem call_pure {f : FuncId} {args : List AV} {hp : List (Nat × Blk)} {nx : Nat} {K : AV → List (Nat × Blk) → Nat → Prop} {r : AV} (h : Spec P f args [] nx r [] nx) (hk : K r hp nx) : CallP P f args hp nx K := call_sub (SubL.refl _) h hk
theorem callH_sub {f : FuncId} {args args' : List AV} {hp : List (Nat × Blk)} {nx : Nat} {K : AV → Prop} {r : AV} (hs : SubL args args') (h : Spec P f args' [] nx r [] nx) (hk : K r) : CallH P f args hp nx K :=
  ⟨args', [], r, hs, h, (fun b k hg => get_nil b k _ hg), hk⟩
theorem callH_pure {f : FuncId} {args : List AV} {hp : List (Nat × Blk)} {nx : Nat} {K : AV → Prop} {r : AV} (h : Spec P f args [] nx r [] nx) (hk : K r) : CallH P f args hp nx K := callH_sub (SubL.refl _) h hk
/-- A call of a function that hands back a new block. -/
theorem call_new {f : FuncId} {args args' : List AV} {hp hp' : List (Nat × Blk)} {nx nx' : Nat} {K : AV → List (Nat × Blk) → Nat → Prop} {r : AV} (hs : SubL args args') (h : Spec P f args' [] nx r hp' nx') (hn : ∀ b k, get b hp' = some k → nx ≤ b) (hk : K r (hp' ++ hp) nx') : CallP P f args hp nx K :=
  ⟨args', [], r, hp', nx', hs, h, (fun b k hg => get_nil b k _ hg), (fun b k hg hlt => absurd (hn b k hg) (by omega)), (by rw [frame_nil]; exact hk)⟩
theorem cmp_is {op : BinOp} {t : TypeId} {x y : AV} {K : Bool → Prop} (b : Bool) (h : EqOk P op t x y b) (hk : K b) : CmpP P op t x y K := ⟨b, h, hk⟩
theorem wrapI (n : Int) (h1 : -9223372036854775808 ≤ n) (h2 : n ≤ 9223372036854775807) : IntKind.i64.wrap n = n := by rw [IntKind.wrap_i64]; omega
theorem wrapU (n : Int) (h1 : 0 ≤ n) (h2 : n ≤ 18446744073709551615) : IntKind.u64.wrap n = n := by rw [IntKind.wrap_u64]; omega
end
end Go.Proofs.YtdfokoapenhalaaDoor.Ab
end
section
namespace Go.Proofs.YtdfokoapenhalaaDoor.Ab
open Go Go.RowKit Go.Shelf
section
variable {P : Program} {n lo : Nat} {st : St} {F : Fr} {Q : Exit → St → Prop}
/-- An own row is handed out: from here on nobody writes it. -/
theorem Mem.freeze {hp : List (Nat × Blk)} {nx : Nat} {w : World} {S : Nat → Prop} {m : Nat → Nat × Nat} (h : Mem F hp nx w S m) {c : Nat} {k : Blk} (hg : get c hp = some k) (hz0 : 0 < k.sz) (hmk : (m c).2 ≠ mapMark) {es : List (List AV)} (hes : k.cs = es.flatten)
    (hz : ∀ e ∈ es, e.length = k.sz) (hk : ∀ e ∈ es, ∀ a ∈ e, a.keyed 0 4 = true ∧ a.one = true) :
    ∃ S' : Nat → Prop, Mem F (delB c hp) nx w S' m ∧ (∀ x v, Rep w S m nx x v → Rep w S' m nx x v) ∧ Rep w S' m nx (.sl k.sz es) (.slice (some ⟨(m c).1, 0, none⟩) es.length (m c).2) := by
  obtain ⟨l1, l2, l3⟩ := h.live c k hg
  obtain ⟨cur, c1, c2, c3⟩ := h.cells c k hg
  replace c1 := c1.1 hmk
  have hup : ∀ x v, Rep w S m nx x v → Rep w (fun i => S i ∧ i ≠ (m c).1) m nx x v := fun x v hr => hr.mono (fun i _ hS => ⟨rfl, fun hh => hS hh.1⟩) (fun _ _ => rfl) (Nat.le_refl _)
  refine ⟨fun i => S i ∧ i ≠ (m c).1, ⟨h.glob, h.os, h.tape, h.output, h.size, h.keep, fun i hi => ⟨fun hh => (h.old i hi).1 hh.1, fun h1 h2 => ⟨(h.old i hi).2 h1 h2, fun e => by subst e; rcases l3 with l3 | l3; exact h2 l3; omega⟩⟩, h.agree, h.nile, fun i hh => h.lt i hh.1, fun b q hq => ?_, fun b q hq => ?_, fun b b' q q' hq hq' => ?_⟩, hup, ?_⟩
  · rw [get_delB] at hq
    split at hq
    · cases hq
    · rename_i hne
      obtain ⟨x1, x2, x3⟩ := h.live b q hq
      exact ⟨x1, ⟨x2, fun e => hne (h.inj b c q k hq hg e)⟩, x3⟩
  · rw [get_delB] at hq
    split at hq
    · cases hq
    · obtain ⟨cur', x1, x2, x3⟩ := h.cells b q hq
      exact ⟨cur', x1, fun j x hx => by obtain ⟨v, y1, y2⟩ := x2 j x hx; exact ⟨v, y1, hup _ _ y2⟩, x3⟩
  · rw [get_delB] at hq hq'
    split at hq
    · cases hq
    · split at hq'
      · cases hq'
      · exact h.inj b b' q q' hq hq'
  · have hat : ∀ (i : Nat) (e : List AV) (j : Nat) (a : AV), es[i]? = some e → e[j]? = some a → ∃ v, cur[i * k.sz + j]? = some v ∧ Rep w S m nx a v := fun i e j a he ha => by
      have hj : j < k.sz := by rw [← hz e (List.mem_of_getElem? he)]; exact (List.getElem?_eq_some_iff.1 ha).1
      refine c2 _ a ?_
      rw [hes, flatten_get k.sz hz0 es hz, show (i * k.sz + j) / k.sz = i by rw [Nat.mul_comm, Nat.mul_add_div hz0, Nat.div_eq_of_lt hj, Nat.add_zero], show (i * k.sz + j) % k.sz = j by rw [Nat.mul_comm, Nat.mul_add_mod, Nat.mod_eq_of_lt hj], he]
      exact ha
    have hv : ∀ (i : Nat) (e : List AV) (j : Nat) (a : AV), es[i]? = some e → e[j]? = some a → cur[i * k.sz + j]? = some (cur.getD (i * k.sz + j) undef) ∧ Rep w S m nx a (cur.getD (i * k.sz + j) undef) := fun i e j a he ha => by
      obtain ⟨v, h1, h2⟩ := hat i e j a he ha
      have : cur.getD (i * k.sz + j) undef = v := by simp [Array.getD_eq_getD_getElem?, h1]
      rw [this]; exact ⟨h1, h2⟩
    refine .sl (m c).1 0 (m c).2 (fun i j => cur.getD (i * k.sz + j) undef) (h.lt _ l2) (fun hh => hh.2 rfl) hz (fun i e j a he ha => ?_) (fun i e j a he ha => ?_) (fun i e j a he ha => ?_) (by
      have h0 := c3 (by omega) hmk
      have h1 : es.flatten.length = es.length * k.sz := by
        clear hes hk hg hv hat
        induction es with
        | nil => simp
        | cons e es ih => rw [List.flatten_cons, List.length_append, hz e (by simp), ih (fun e he => hz e (by simp [he])), List.length_cons, Nat.add_mul, Nat.one_mul, Nat.add_comm]
      have h2 : k.cs.length ≤ cur.size := by
        rcases Nat.eq_zero_or_pos k.cs.length with h0 | h0
        · omega
        · obtain ⟨v, hv, _⟩ := c2 (k.cs.length - 1) _ (List.getElem?_eq_getElem (by omega))
          have := (Array.getElem?_eq_some_iff.1 hv).1
          omega
      rw [hes, h1, h0.1] at h2
      exact Nat.le_of_mul_le_mul_right h2 hz0)
    · rw [Nat.zero_add]
      simp only [World.cell?, c1]
      simpa using (hv i e j a he ha).1
    · exact (hv i e j a he ha).2.oneC (hk e (List.mem_of_getElem? he) a (List.mem_of_getElem? ha)).2
    · exact (hup _ _ (hv i e j a he ha).2).lower 4 (hk e (List.mem_of_getElem? he) a (List.mem_of_getElem? ha)).1
theorem to_freeze (t c k : Nat) (q : Blk) (es : List (List AV)) (hl : lo ≤ st.nx) (ht : get t st.env = some (.own c k)) (hg : get c st.hp = some q) (hz0 : 0 < q.sz) (hlen : es.length = k) (hes : q.cs = es.flatten) (hz : ∀ e ∈ es, e.length = q.sz) (hk : ∀ e ∈ es, ∀ a ∈ e, a.keyed 0 4 = true ∧ a.one = true) :
    St.to lo st ⟨(t, .sl q.sz es) :: st.env, delB c st.hp, st.nx⟩ := by
  refine ⟨hl, fun F a w hF ⟨h1, h2, S, m, hm, hE⟩ => ?_⟩
  have hmk : (m c).2 ≠ mapMark := by
    have hr := (hE t _ ht).2
    generalize a.tmps.getD t undef = u at hr
    cases hr; assumption
  obtain ⟨S', f1, f2, f3⟩ := hm.freeze hg hz0 hmk hes hz hk
  refine ⟨h1, h2, S', m, f1, fun s x hs => ?_⟩
  by_cases e : s = t
  · subst e
    have hx : x = .sl q.sz es := by
      have : get s ((s, AV.sl q.sz es) :: st.env) = some (.sl q.sz es) := by show (if s = s then _ else _) = _; rw [if_pos rfl]
      have hs' : get s ((s, AV.sl q.sz es) :: st.env) = some x := hs
      rw [this] at hs'; injection hs' with hs'; exact hs'.symm
    subst hx
    obtain ⟨g1, g2⟩ := hE s _ ht
    refine ⟨g1, ?_⟩
    generalize a.tmps.getD s undef = u at *
    cases g2
    rw [← hlen]; exact f3
  · have hs' : get s st.env = some x := by
      have : get s ((t, AV.sl q.sz es) :: st.env) = get s st.env := by show (if s = t then _ else _) = _; rw [if_neg e]
      rw [← this]; exact hs
    obtain ⟨g1, g2⟩ := hE s x hs'
    exact ⟨g1, f2 _ _ g2⟩
theorem to_put {x y : AV} (t : Nat) (hl : lo ≤ st.nx) (ht : get t st.env = some x) (hs : Sub x y) : St.to lo st ⟨(t, y) :: st.env, st.hp, st.nx⟩ := by
  refine ⟨hl, fun F a w hF ⟨h1, h2, S, m, hm, hE⟩ => ⟨h1, h2, S, m, hm, fun s z hz => ?_⟩⟩
  by_cases e : s = t
  · subst e
    have hz' : get s ((s, y) :: st.env) = some z := hz
    have : get s ((s, y) :: st.env) = some y := by show (if s = s then _ else _) = _; rw [if_pos rfl]
    rw [this] at hz'; injection hz' with hz'; subst hz'
    obtain ⟨g1, g2⟩ := hE s _ ht
    exact ⟨g1, hs _ _ _ _ _ g2⟩
  · have : get s ((t, y) :: st.env) = get s st.env := by show (if s = t then _ else _) = _; rw [if_neg e]
    have hz' : get s ((t, y) :: st.env) = some z := hz
    rw [this] at hz'
    exact hE s z hz'
theorem to_refl (h : lo ≤ st.nx) : St.to lo st st := ⟨h, fun _ _ _ _ hs => hs⟩
theorem to_trans {st' st'' : St} (h1 : St.to lo st st') (h2 : St.to lo st' st'') : St.to lo st st'' := ⟨h2.1, fun F a w hF hs => h2.2 F a w hF (h1.2 F a w hF hs)⟩
/-- The end of a function that hands a row out. -/
def aRetF (P : Program) (rs : List ResultVar) (nx : Nat) (r : AV) (hp' : List (Nat × Blk)) (nx' : Nat) : Exit → St → Prop := fun e st => ∃ st', St.to nx st st' ∧ aRet P rs nx r hp' nx' e st'
theorem spec_of_awpF {f : FuncId} {fn : Func} {c : Code} {args : List AV} {hp : List (Nat × Blk)} {nx : Nat} {r : AV} {hp' : List (Nat × Blk)} {nx' : Nat} {rs : List ResultVar}
    (hf : P.funcs[f]? = some fn) (hname : (fn.name == "runtime.NumGoroutine") = false) (hb : fn.body = some c) (hn : fn.ntmps = n) (hrs : fn.results.toList = rs) (ha : args.length ≤ n)
    (h : awp P n nx c (aRetF P rs nx r hp' nx') ⟨initEnv 0 args, hp, nx⟩) : Spec P f args hp nx r hp' nx' := by
  refine ⟨enters_of hf hname hb, fun w S m vs hm hr => ?_⟩
  refine calls_of_wp hf hb ?_
  rw [hn]
  let F : Fr := ⟨w, Lv hp m, S, n, m, nx⟩
  have hm' : Mem F hp nx w S m := ⟨hm.glob, hm.os, hm.tape, hm.output, hm.size, hm.keep, hm.old, hm.agree, hm.nile, hm.lt, hm.live, hm.cells, hm.inj⟩
  have hs := sim_init F args hp nx vs w S m hm' hr ha
  refine wp_mono (awp_sound (F := F) rfl (Nat.le_refl _) c h hs) fun e a' w' ⟨st1, ⟨st', hto, hq⟩, hs1⟩ => ?_
  have hs' := hto.2 F a' w' (Nat.le_refl _) hs1
  have := ret_sound (F := F) (fn := fn) hrs rfl hq hs'
  cases e <;> first
    | exact hq.elim
    | (obtain ⟨h1, v, h2, v', S', m', h3, h4, h5⟩ := this
       exact ⟨h1, v, h2, v', S', m', h3, ⟨h4.glob, h4.os, h4.tape, h4.output, h4.size, h4.keep, h4.old, h4.agree, h4.nile, h4.lt, h4.live, h4.cells, h4.inj⟩, h5⟩)
/-- A call that is given blocks of ours. -/
theorem call_own {f : FuncId} {args : List AV} {hp hp1 hp1' : List (Nat × Blk)} {nx nx' : Nat} {K : AV → List (Nat × Blk) → Nat → Prop} {r : AV} (h : Spec P f args hp1 nx r hp1' nx') (hs : subH nx hp hp1) (hb : ∀ b k, get b hp1' = some k → b < nx → (get b hp1).isSome = true) (hk : K r (hp1' ++ frame hp1 hp) nx') : CallP P f args hp nx K :=
  ⟨args, hp1, r, hp1', nx', SubL.refl _, h, fun b k hg => (subH_spec hs b k hg).1, hb, hk⟩
/-- A call that is given blocks of ours and hands the same ones back. -/
theorem call_same {f : FuncId} {args : List AV} {hp hp1 hp1' : List (Nat × Blk)} {nx nx' : Nat} {K : AV → List (Nat × Blk) → Nat → Prop} {r : AV} (h : Spec P f args hp1 nx r hp1' nx') (hs : subH nx hp hp1) (he : hp1'.map Prod.fst = hp1.map Prod.fst) (hk : K r (hp1' ++ frame hp1 hp) nx') : CallP P f args hp nx K :=
  call_own h hs (fun b k hg _ => by
    have key : ∀ (l : List (Nat × Blk)), (get b l).isSome = true ↔ b ∈ l.map Prod.fst := by
      intro l
      induction l with
      | nil => simp [get]
      | cons x l ih =>
        obtain ⟨c, q⟩ := x
        show (if b = c then some q else get b l).isSome = true ↔ _
        by_cases e : b = c
        · rw [if_pos e]; simp [e]
        · rw [if_neg e, ih]; simp [e]
    rw [key, ← he, ← key, hg]; rfl) hk
theorem callH_own {f : FuncId} {args : List AV} {hp hp1 : List (Nat × Blk)} {nx : Nat} {K : AV → Prop} {r : AV} (h : Spec P f args hp1 nx r hp1 nx) (hs : subH nx hp hp1) (hk : K r) : CallH P f args hp nx K :=
  ⟨args, hp1, r, SubL.refl _, h, fun b k hg => (subH_spec hs b k hg).1, hk⟩
theorem neF {a b : Nat} (h : a ≠ b) : (a = b) = False := eq_false h
end
end Go.Proofs.YtdfokoapenhalaaDoor.Ab
end
