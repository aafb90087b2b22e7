/- Abstract runs: a region that draws its order does what its operations say, whatever the order. -/
import Derived.Test.YtgggekjhfdkgkaaAbI
import Derived.Orders
namespace Go.Proofs.Ytgggekjhfdkgkaa.Ab
open Go Go.RowKit Go.Shelf

def updE (E : Nat → Option AV) (d : Option Tmp) (x : AV) : Nat → Option AV := fun t => if d = some t then some x else E t
def StepV (P : Program) (n : Nat) (ops : Array Oper) (hp : List (Nat × Blk)) (nx : Nat) (E : Nat → Option AV) (o : Oper) (x : AV) : Prop :=
  dstOk n o.dst ∧ match o.guard with
    | none => EvalsTo P (aEv E) hp nx o x
    | some (j, want) => ∃ b, yv (((ops[j]?).bind (·.dst)).bind E) = some b ∧ (b = some want → EvalsTo P (aEv E) hp nx o x) ∧ (b ≠ some want → x = .s undef)
def HeadV (P : Program) (n : Nat) (ops : Array Oper) (hp : List (Nat × Blk)) (nx : Nat) : (Nat → Option AV) → List Oper → List AV → Prop
  | _, [], [] => True
  | E, o :: l, x :: xs => StepV P n ops hp nx E o x ∧ HeadV P n ops hp nx (updE E o.dst x) l xs
  | _, _, _ => False
/-- The slots, when the listed operations were carried out. -/
def EL (listed : Nat → Bool) : (Nat → Option AV) → Nat → List Oper → List AV → (Nat → Option AV)
  | E, i, o :: l, x :: xs => EL listed (if listed i = true then updE E o.dst x else E) (i + 1) l xs
  | E, _, _, _ => E
section
variable {P : Program} {n : Nat} {ops : Array Oper} {hp : List (Nat × Blk)} {nx : Nat} {F : Fr}
theorem put_E (st : St) (d : Option Tmp) (x : AV) : (st.put d x).E = updE st.E d x := by
  funext t
  cases d with
  | none => show st.E t = if none = some t then _ else _; rw [if_neg (by simp)]
  | some d =>
    show (if t = d then some x else get t st.env) = if some d = some t then some x else st.E t
    by_cases h : t = d
    · subst h; simp
    · rw [if_neg h, if_neg (by simp; exact fun e => h e.symm)]; rfl
theorem head_vals : ∀ (l : List Oper) {K : St → Prop} {st : St}, aHead P n ops l K st → ∃ xs st', xs.length = l.length ∧ HeadV P n ops st.hp st.nx st.E l xs ∧ K st' ∧ st'.hp = st.hp ∧ st'.nx = st.nx ∧ ∀ f : Nat → Bool, (∀ i, f i = true) → ∀ b, st'.E = EL f st.E b l xs
  | [], K, st, h => ⟨[], st, rfl, trivial, h, rfl, rfl, fun _ _ _ => rfl⟩
  | o :: l, K, st, h => by
    unfold aHead at h
    have step : ∀ x, StepV P n ops st.hp st.nx st.E o x → aHead P n ops l K (st.put o.dst x) → ∃ xs st', xs.length = (o :: l).length ∧ HeadV P n ops st.hp st.nx st.E (o :: l) xs ∧ K st' ∧ st'.hp = st.hp ∧ st'.nx = st.nx ∧ ∀ f : Nat → Bool, (∀ i, f i = true) → ∀ b, st'.E = EL f st.E b (o :: l) xs := fun x hx hh => by
      obtain ⟨xs, st', h0, h1, h2, h3, h4, h5⟩ := head_vals l hh
      have e1 : (st.put o.dst x).hp = st.hp := by cases o.dst <;> rfl
      have e2 : (st.put o.dst x).nx = st.nx := by cases o.dst <;> rfl
      rw [e1, e2, put_E] at h1
      refine ⟨x :: xs, st', by simp [h0], ⟨hx, h1⟩, h2, h3.trans e1, h4.trans e2, fun f hf b => ?_⟩
      rw [h5 f hf (b + 1), put_E]
      show _ = EL f (if f b = true then updE st.E o.dst x else st.E) (b + 1) l xs
      rw [if_pos (hf b)]
    split at h
    · rename_i hg
      obtain ⟨x, hx, hd, hh⟩ := aOpH_evals h
      exact step x ⟨hd, by rw [hg]; exact hx⟩ hh
    · rename_i j want hg
      split at h
      · rename_i b hb
        by_cases hw : b = some want
        · rw [if_pos hw] at h
          obtain ⟨x, hx, hd, hh⟩ := aOpH_evals h
          exact step x ⟨hd, by rw [hg]; exact ⟨b, hb, fun _ => hx, fun h => absurd hw h⟩⟩ hh
        · rw [if_neg hw] at h
          obtain ⟨hd, hh⟩ := h
          exact step _ ⟨hd, by rw [hg]; exact ⟨b, hb, fun h => absurd h hw, fun _ => rfl⟩⟩ hh
      · exact h.elim
theorem EL_congr (f g : Nat → Bool) (t : Nat) : ∀ (l : List Oper) (xs : List AV) (E E' : Nat → Option AV) (b : Nat), E t = E' t → (∀ i o, l[i]? = some o → o.dst = some t → f (b + i) = g (b + i)) → EL f E b l xs t = EL g E' b l xs t
  | [], xs, E, E', b, h, _ => h
  | o :: l, [], E, E', b, h, _ => h
  | o :: l, x :: xs, E, E', b, h, hfg => by
    refine EL_congr f g t l xs _ _ (b + 1) ?_ (fun i o' ho hd => by have := hfg (i + 1) o' (by simpa using ho) hd; rw [show b + 1 + i = b + (i + 1) by omega]; exact this)
    by_cases hd : o.dst = some t
    · have := hfg 0 o rfl hd
      rw [Nat.add_zero] at this
      rw [this]
      split
      · unfold updE; rw [if_pos hd, if_pos hd]
      · exact h
    · have hu : ∀ E : Nat → Option AV, updE E o.dst x t = E t := fun E => if_neg hd
      have : ∀ (c : Bool) (E : Nat → Option AV), (if c = true then updE E o.dst x else E) t = E t := fun c E => by
        split
        · exact hu E
        · rfl
      rw [this, this]; exact h
theorem EL_none (f : Nat → Bool) (t : Nat) (l : List Oper) (xs : List AV) (E : Nat → Option AV) (b : Nat) (h : ∀ i o, l[i]? = some o → o.dst = some t → f (b + i) = false) : EL f E b l xs t = E t := by
  have hn : ∀ (l : List Oper) (xs : List AV) (E : Nat → Option AV) (b : Nat), EL (fun _ => false) E b l xs = E := by
    intro l
    induction l with
    | nil => intro xs E b; cases xs <;> rfl
    | cons o l ih =>
      intro xs E b
      cases xs with
      | nil => rfl
      | cons x xs => show EL _ (if false = true then _ else E) (b + 1) l xs = E; rw [if_neg (by decide), ih]
  rw [EL_congr f (fun _ => false) t l xs E E b rfl h, hn]
theorem EL_hit (f : Nat → Bool) (t : Nat) : ∀ (l : List Oper) (xs : List AV) (E : Nat → Option AV) (b i : Nat) (o : Oper) (x : AV), l[i]? = some o → xs[i]? = some x → o.dst = some t → f (b + i) = true →
    (∀ j o', l[j]? = some o' → j ≠ i → o'.dst ≠ some t) → EL f E b l xs t = some x
  | [], xs, E, b, i, o, x, h, _, _, _, _ => by simp at h
  | o0 :: l, [], E, b, i, o, x, _, h, _, _, _ => by simp at h
  | o0 :: l, x0 :: xs, E, b, i, o, x, ho, hx, hd, hf, hne => by
    cases i with
    | zero =>
      simp at ho hx; subst ho; subst hx
      show EL f (if f b = true then _ else _) (b + 1) l xs t = _
      rw [Nat.add_zero] at hf
      rw [if_pos hf, EL_none f t l xs _ (b + 1) (fun i o' ho' hd' => absurd hd' (hne (i + 1) o' (by simpa using ho') (by omega)))]
      exact if_pos hd
    | succ i =>
      exact EL_hit f t l xs _ (b + 1) i o x (by simpa using ho) (by simpa using hx) hd (by rw [show b + 1 + i = b + (i + 1) by omega]; exact hf) (fun j o' ho' hj => hne (j + 1) o' (by simpa using ho') (by omega))
theorem head_at : ∀ (l : List Oper) (xs : List AV) (E : Nat → Option AV) (b : Nat), HeadV P n ops hp nx E l xs → ∀ i o, l[i]? = some o → ∃ x, xs[i]? = some x ∧ StepV P n ops hp nx (EL (fun j => decide (j < b + i)) E b l xs) o x
  | [], xs, E, b, _, i, o, h => by simp at h
  | o0 :: l, [], E, b, h, i, o, _ => h.elim
  | o0 :: l, x0 :: xs, E, b, h, i, o, ho => by
    cases i with
    | zero =>
      simp at ho; subst ho
      refine ⟨x0, rfl, ?_⟩
      have : EL (fun j => decide (j < b + 0)) E b (o0 :: l) (x0 :: xs) = E := funext fun t => EL_none _ t _ _ _ _ (fun i _ _ _ => by simp)
      rw [this]; exact h.1
    | succ i =>
      obtain ⟨x, hx, hs⟩ := head_at l xs _ (b + 1) h.2 i o (by simpa using ho)
      refine ⟨x, by simpa using hx, ?_⟩
      have : EL (fun j => decide (j < b + (i + 1))) E b (o0 :: l) (x0 :: xs) = EL (fun j => decide (j < b + 1 + i)) (updE E o0.dst x0) (b + 1) l xs := by
        show EL _ (if decide (b < b + (i + 1)) = true then _ else _) (b + 1) l xs = _
        rw [if_pos (by simp)]
        congr 1
        funext j; rw [show b + (i + 1) = b + 1 + i by omega]
      rw [this]; exact hs
/-- A value depends on the slots that are looked at alone. -/
theorem mapM_congr {ρ ρ' : Operand → Option AV} : ∀ (l : List Operand), (∀ o ∈ l, ρ' o = ρ o) → l.mapM ρ' = l.mapM ρ
  | [], _ => rfl
  | o :: l, h => by rw [List.mapM_cons, List.mapM_cons, h o (by simp), mapM_congr l (fun o ho => h o (by simp [ho]))]
theorem args_congr {ρ ρ' : Operand → Option AV} : ∀ (l : List Operand), (∀ o ∈ l, ρ' o = ρ o) → aArgs ρ' l = aArgs ρ l
  | [], _ => rfl
  | o :: l, h => by unfold aArgs; rw [h o (by simp), args_congr l (fun o ho => h o (by simp [ho]))]
theorem parts_congr {ρ ρ' : Operand → Option AV} : ∀ (l : List (Nat × Operand)), (∀ p ∈ l, ρ' p.2 = ρ p.2) → aParts ρ' l = aParts ρ l
  | [], _ => rfl
  | (i, o) :: l, h => by unfold aParts; rw [h (i, o) (by simp), parts_congr l (fun o ho => h o (by simp [ho]))]
theorem built_congr {ρ ρ' : Operand → Option AV} (b : Builtin) (l : List Operand) (ts : List TypeId) (h : ∀ o ∈ l, ρ' o = ρ o) : aBuilt P ρ' b l ts = aBuilt P ρ b l ts := by
  unfold aBuilt
  split
  · split
    · rw [h _ (by simp)]
    · rfl
  · split
    · rw [h _ (by simp), h _ (by simp)]
    · rfl
  · split
    · rw [h _ (by simp), h _ (by simp)]
    · rfl
  · rfl
theorem pure_congr {ρ ρ' : Operand → Option AV} (op : Op) (h : ∀ o ∈ op.operands.toList, ρ' o = ρ o) : aPure P ρ' hp op = aPure P ρ hp op := by
  cases op with
  | build t parts =>
    show aBuild P ρ' t parts.toList = aBuild P ρ t parts.toList
    unfold aBuild
    rw [parts_congr _ (fun p hp => h p.2 (by simp only [Op.operands]; simp only [List.mem_map]; exact ⟨p, hp, rfl⟩))]
  | buildSlice t k parts =>
    show aBuildSlice P ρ' t k parts.toList = aBuildSlice P ρ t k parts.toList
    unfold aBuildSlice
    rw [parts_congr _ (fun p hp => h p.2 (by simp only [Op.operands]; simp only [List.mem_map]; exact ⟨p, hp, rfl⟩))]
  | makeFunc fn first caps =>
    cases fn with
    | func f =>
      simp only [aPure, aVal]
      rw [mapM_congr _ (fun o ho => h o (by simp only [Op.operands, Array.toList_append, List.mem_append]; exact .inr ho))]
    | _ => rfl
  | call c =>
    simp only [aPure, aVal]
    cases hc : c.callee with
    | builtin b =>
      simp only []
      exact built_congr b _ _ (fun o ho => h o (by simp only [Op.operands, Call.operands, Array.toList_append, List.mem_append]; exact .inr ho))
    | _ => rfl
  | _ =>
    simp only [Op.operands, List.mem_cons, List.not_mem_nil, or_false, forall_eq_or_imp, forall_eq, false_implies, implies_true] at h
    simp only [aPure, aVal, aBox, h]
theorem ev_congr {E E' : Nat → Option AV} {l : List Operand} (h : ∀ t ∈ l.filterMap (fun | .tmp t => some t | _ => none), E' t = E t) : ∀ o ∈ l, aEv E' o = aEv E o := fun o ho => by
  cases o with
  | tmp t => exact h t (List.mem_filterMap.2 ⟨.tmp t, ho, rfl⟩)
  | _ => rfl
theorem evals_congr {E E' : Nat → Option AV} {o : Oper} {x : AV} (h : ∀ o' ∈ o.op.operands.toList, aEv E' o' = aEv E o') (he : EvalsTo P (aEv E) hp nx o x) : EvalsTo P (aEv E') hp nx o x := by
  unfold EvalsTo at he ⊢
  have hpc := pure_congr (P := P) (hp := hp) o.op h
  split at he
  · rename_i y hy
    rw [hy] at hpc
    rw [hpc]; exact he
  · rename_i hy
    rw [hy] at hpc
    rw [hpc]
    split at he
    · rename_i op t p q ty e
      rw [e] at h
      simp only [Op.operands, List.mem_cons, List.not_mem_nil, or_false, forall_eq_or_imp, forall_eq] at h
      simp only [h]
      exact he
    · rename_i c e
      rw [e] at h
      simp only
      split at he
      · rename_i f hf
        have hargs := args_congr c.args.toList (fun o ho => h o (by simp only [Op.operands, Call.operands, Array.toList_append, List.mem_append]; exact .inr ho))
        have hfe := h f (by simp only [Op.operands, Call.operands, hf, Array.toList_append, List.mem_append]; exact .inl (by simp))
        simp only [hf, hargs, hfe]
        exact he
      · exact he.elim
    · exact he.elim
theorem step_congr {E E' : Nat → Option AV} {o : Oper} {x : AV} (h : ∀ t ∈ o.looksAt ops, E' t = E t) (hs : StepV P n ops hp nx E o x) : StepV P n ops hp nx E' o x := by
  refine ⟨hs.1, ?_⟩
  have hs2 := hs.2
  have ho := ev_congr (l := o.op.operands.toList) (E := E) (E' := E') (fun t ht => h t (List.mem_append_left _ ht))
  cases hg : o.guard with
  | none => rw [hg] at hs2; exact evals_congr ho hs2
  | some p =>
    obtain ⟨j, want⟩ := p
    rw [hg] at hs2
    obtain ⟨b, hb, h1, h2⟩ := hs2
    refine ⟨b, ?_, fun e => evals_congr ho (h1 e), h2⟩
    cases ht : (ops[j]?).bind (·.dst) with
    | none => rw [ht] at hb; exact hb
    | some t =>
      rw [ht] at hb
      show yv (E' t) = _
      rw [h t (List.mem_append_right _ (by rw [hg]; simp only [ht]; simp))]
      exact hb
theorem simE_put {E : Nat → Option AV} {a : Act} {w w' : World} {S S' : Nat → Prop} {m m' : Nat → Nat × Nat} {nx' : Nat} {hp' : List (Nat × Blk)} {d : Option Tmp} {x : AV} {v : Value} (hd : a.defers = []) (hn : a.tmps.size = F.n)
    (hE : ∀ t x, E t = some x → t < F.n ∧ Rep w S m nx x (a.tmps.getD t undef)) (hc : Carries w S m nx w' S' m' nx') (hm : Mem F hp' nx' w' S' m') (hx : Rep w' S' m' nx' x v) (hok : dstOk F.n d) :
    SimE F (updE E d x) hp' nx' (a.put d v) w' := by
  cases d with
  | none => exact ⟨hd, hn, S', m', hm, fun t y h => by rw [show updE E none x t = E t from if_neg (by simp)] at h; exact ⟨(hE t y h).1, hc _ _ (hE t y h).2⟩⟩
  | some d =>
    refine ⟨hd, by simp [Act.put, hn], S', m', hm, fun t y h => ?_⟩
    have h' : (if some d = some t then some x else E t) = some y := h
    by_cases htd : d = t
    · subst htd
      rw [if_pos rfl] at h'
      injection h' with h'; subst h'
      have hok' : d < F.n := hok
      have hlt : d < a.tmps.size := by rw [hn]; exact hok'
      refine ⟨hok', ?_⟩
      simp only [Act.put]
      rw [Array.getD_eq_getD_getElem?, Array.getElem?_setIfInBounds_self, if_pos hlt]
      exact hx
    · rw [if_neg (by simpa using htd)] at h'
      obtain ⟨h1, h2⟩ := hE t y h'
      refine ⟨h1, ?_⟩
      simp only [Act.put]
      rw [Array.getD_eq_getD_getElem?, Array.getElem?_setIfInBounds_ne htd, ← Array.getD_eq_getD_getElem?]
      exact hc _ _ h2
theorem evals_sound (hn : F.n = n) {E : Nat → Option AV} {o : Oper} {x : AV} {a : Act} {w : World} {K' : Act → World → Prop} {Q : Exit → Act → World → Prop} (hd : dstOk n o.dst) (h : EvalsTo P (aEv E) hp nx o x) (hs : SimE F E hp nx a w)
    (hK : ∀ a' w', SimE F (updE E o.dst x) hp nx a' w' → K' a' w') : o.wp P a w K' Q := by
  obtain ⟨hdf, htn, S, m, hm, hE⟩ := hs
  have hρ : ∀ o x, aEv E o = some x → Rep w S m nx x (a.eval o) := fun o x h => aEv_rep hE h
  unfold EvalsTo at h
  unfold Oper.wp
  split at h
  · rename_i y hy
    subst h
    obtain ⟨v, w', hr, hb, hrep⟩ := aPure_sound hm hρ o hy
    rw [hr]
    exact hK _ _ (simE_put hdf htn hE (fun x u hx => hx.belowW hb) (hm.below hb) hrep (by rw [hn]; exact hd))
  · split at h
    · rename_i op t p q ty e
      split at h
      · rename_i x' y' hx hy
        obtain ⟨b, hb, rfl⟩ := h
        have hr := hb w S m nx _ _ p q (hρ _ _ hx) (hρ _ _ hy)
        have : (execOp a.eval o).run P w = .ok (.value (.bool b)) w := by
          simp only [execOp, e]
          rw [Sem.run_bind, hr]; rfl
        rw [this]
        exact hK _ _ (simE_put hdf htn hE (fun x u hx => hx) hm (.s _) (by rw [hn]; exact hd))
      · exact h.elim
    · rename_i c e
      split at h
      · rename_i f hcal
        split at h
        · rename_i g caps args hf hargs
          obtain ⟨args', hp1, hsub, ⟨hent, hspec⟩, hs1⟩ := h
          have hfr := hρ _ _ hf
          obtain ⟨fv, hfv⟩ : ∃ fv, a.eval f = fv := ⟨_, rfl⟩
          rw [hfv] at hfr
          cases hfr with
          | fn cv hl hcr =>
            have ha := args_rep hρ _ _ hargs
            have hall := repA_sub hsub (repA_append ha ⟨hl, hcr⟩)
            have hcall := hspec w S m _ (hm.sub hs1) hall
            have hrun : (execOp a.eval o).run P w = .ok (.enter g ((c.args.toList.map a.eval).toArray ++ cv)) w := by
              obtain ⟨cal, cargs, cts⟩ := c
              simp only at hcal
              subst hcal
              have he := hent ((cargs.toList.map a.eval).toArray ++ cv) w
              have hmap : cargs.map a.eval = (cargs.toList.map a.eval).toArray := by obtain ⟨l⟩ := cargs; simp
              simp only [execOp, e, resolve, Deferred.ofValue, hfv, hmap, Sem.run_bind, Sem.run_pure, Result.andThen_ok, invoke, Array.empty_append]
              exact he
            rw [hrun]
            refine Calls.mono hcall fun e' w' ⟨v, S', m', he', hm', hrep⟩ => ?_
            subst he'
            obtain ⟨j1, j2⟩ := hm.join hs1 hm' (fun b k hg _ => by rw [hg]; rfl)
            have j3 : Mem F hp nx w' S' m' := j1.fewer (fun b k hg => by
              rw [get_append, get_frame]
              cases h1 : get b hp1 with
              | some k' => have := hs1 b k' h1; rw [hg] at this; exact this.symm
              | none => simpa using hg)
            exact hK _ _ (simE_put hdf htn hE j2 j3 hrep (by rw [hn]; exact hd))
        · exact h.elim
      · exact h.elim
    · exact h.elim
theorem stepV_sound (hn : F.n = n) {E : Nat → Option AV} {i : Nat} {o : Oper} (ho : ops[i]? = some o) {x : AV} {a : Act} {w : World} {K' : Act → World → Prop} {Q : Exit → Act → World → Prop} (h : StepV P n ops hp nx E o x) (hs : SimE F E hp nx a w)
    (hK : ∀ a' w', SimE F (updE E o.dst x) hp nx a' w' → K' a' w') : wpOp P ops Q i K' a w := by
  unfold wpOp
  rw [ho]
  simp only
  have h2 := h.2
  cases hg : o.guard with
  | none =>
    rw [hg] at h2
    rw [if_pos (by simp [Region.wanted, hg])]
    exact .inl (evals_sound hn h.1 h2 hs hK)
  | some p =>
    obtain ⟨j, want⟩ := p
    rw [hg] at h2
    obtain ⟨b, hb, h3, h4⟩ := h2
    have hs0 := hs
    obtain ⟨hd, htn, S, m, hm, hE⟩ := hs
    have hy : yielded ops a.tmps j = b := by
      obtain ⟨v, hv0, hbv⟩ := yv_some hb
      obtain ⟨t, ht, h5⟩ := bind_some' hv0
      obtain ⟨h6, h7⟩ := hE t _ h5
      have hlt : t < a.tmps.size := by rw [htn]; exact h6
      unfold yielded
      rw [ht]
      have hv : a.tmps[t]? = some (a.tmps.getD t undef) := by simp [hlt]
      obtain ⟨u, hu⟩ : ∃ u, a.tmps.getD t undef = u := ⟨_, rfl⟩
      rw [hu] at h7 hv
      cases h7
      show (match a.tmps[t]? with
        | some (.bool b) => some b
        | _ => none) = b
      rw [hv, hbv]
      cases v <;> rfl
    by_cases hbw : b = some want
    · rw [if_pos (by simp [Region.wanted, hg, hy, hbw])]
      exact .inl (evals_sound hn h.1 (h3 hbw) hs0 hK)
    · rw [if_neg (by simp [Region.wanted, hg, hy, hbw])]
      have := h4 hbw; subst this
      exact hK _ _ (simE_put hd htn hE (fun x u hx => hx) hm (.s _) (by rw [hn]; exact h.1))
/-- Nothing of the tail is carried out before the head. -/
theorem edge_ready {i j : Nat} {listed : Array Bool} (hr : i ∈ Region.ready .any ops listed) (he : edge ops i j = true) : listed.getD j false = true := by
  obtain ⟨_, o, ho, hall⟩ := mem_ready.1 hr
  unfold edge at he
  rw [ho] at he
  obtain ⟨e, hm, hb⟩ := Array.any_eq_true'.1 he
  simp only [Bool.and_eq_true, beq_iff_eq] at hb
  rw [← hb.2]; exact hall e hm hb.1
theorem drawOk_at {k i : Nat} (h : drawOk ops k = true) {o : Oper} (ho : ops[i]? = some o) : (∀ e ∈ o.after, Region.binds .any e = true → e.on < i) ∧ (k ≤ i → ∀ j, j < i → edge ops i j = true) ∧
    (i < k → ∀ j o' d, ops[j]? = some o' → j ≠ i → o'.dst = some d → o.dst ≠ some d ∧ (d ∈ o.looksAt ops → (j < i → edge ops i j = true) ∧ (i < j → edge ops j i = true))) := by
  have hlt : i < ops.size := (Array.getElem?_eq_some_iff.1 ho).1
  unfold drawOk at h
  have h1 := List.all_eq_true.1 h i (List.mem_range.2 hlt)
  rw [ho] at h1
  simp only [Bool.and_eq_true] at h1
  obtain ⟨ha, hb⟩ := h1
  refine ⟨fun e he hbe => ?_, fun hk j hj => ?_, fun hk j o' d hj hne hd => ?_⟩
  · have := (Array.all_eq_true_iff_forall_mem.1 ha) e he
    simpa [hbe] using this
  · rw [if_pos hk] at hb
    exact List.all_eq_true.1 hb j (List.mem_range.2 hj)
  · rw [if_neg (by omega)] at hb
    have hjl : j < ops.size := (Array.getElem?_eq_some_iff.1 hj).1
    have h2 := List.all_eq_true.1 hb j (List.mem_range.2 hjl)
    rw [hj] at h2
    simp only [Option.bind_some, hd, Bool.or_eq_true, beq_iff_eq, hne, false_or, Bool.and_eq_true, bne_iff_ne, ne_eq, Bool.not_eq_true'] at h2
    refine ⟨h2.1, fun hm => ?_⟩
    rcases h2.2 with h3 | h3
    · have : (o.looksAt ops).contains d = true := by simpa using hm
      rw [this] at h3; cases h3
    · exact ⟨fun hlt => by rw [if_pos hlt] at h3; exact h3, fun hlt => by rw [if_neg (by omega)] at h3; exact h3⟩
theorem all_listed {k : Nat} (h : drawOk ops k = true) {listed : Array Bool} (hr : Region.ready .any ops listed = []) (hsz : listed.size = ops.size) : ∀ i, i < ops.size → listed.getD i false = true := by
  intro i
  induction i using Nat.strongRecOn with
  | _ i ih =>
    intro hi
    cases hl : listed.getD i false with
    | true => rfl
    | false =>
      have ho : ops[i]? = some ops[i] := Array.getElem?_eq_getElem hi
      have : i ∈ Region.ready .any ops listed := mem_ready.2 ⟨by
        have hlt : i < listed.size := by omega
        simp [hlt] at hl ⊢; exact hl, _, ho, fun e he hb => ih e.on ((drawOk_at h ho).1 e he hb) (by have := (drawOk_at h ho).1 e he hb; omega)⟩
      rw [hr] at this; cases this
def cnt (l : Array Bool) : Nat := l.toList.countP (fun b => !b)
theorem cnt_set {l : Array Bool} {i : Nat} (hi : i < l.size) (h : l.getD i true = false) : cnt (l.setIfInBounds i true) + 1 = cnt l := by
  unfold cnt
  rw [Array.toList_setIfInBounds, List.countP_set (by simpa using hi)]
  have h' : l.toList[i]'(by simpa using hi) = false := by simp [hi] at h; simpa using h
  have hpos : 0 < l.toList.countP (fun b => !b) := List.countP_pos_iff.2 ⟨false, by rw [← h']; exact List.getElem_mem _, rfl⟩
  rw [h']
  simp only [Bool.not_false, Bool.not_true, if_true, Bool.false_eq_true, if_false]
  omega
theorem cnt_zero {l : Array Bool} (h : cnt l = 0) (i : Nat) (hi : i < l.size) : l.getD i false = true := by
  unfold cnt at h
  have := List.countP_eq_zero.1 h l[i] (by simp)
  simpa [hi] using this
theorem getD_both' {l : Array Bool} {i : Nat} (h : l.getD i false = true) : l.getD i true = true := by
  rcases Nat.lt_or_ge i l.size with hi | hi
  · simp [hi] at h ⊢; exact h
  · simp [Array.getElem?_eq_none hi] at h
theorem tail_any (hn : F.n = n) {k : Nat} (hk : drawOk ops k = true) {K : St → Prop} {Q : Exit → Act → World → Prop} (hQ : ∀ st' a' w', K st' → Sim F st' a' w' → Q .normal a' w') :
    ∀ (l : List Oper) (i : Nat) (fuel : Nat) (listed : Array Bool) {st : St} {a : Act} {w : World}, k ≤ i → l = ops.toList.drop i → i + l.length = ops.size → cnt listed = fuel → listed.size = ops.size → (∀ j, listed.getD j false = decide (j < i)) →
      aOps P n ops l K st → Sim F st a w → wpAny P .any ops Q fuel listed a w
  | [], i, fuel, listed, st, a, w, hki, hl, hil, hc, hsz, hli, h, hs => by
    have hi : i = ops.size := by simpa using hil
    have hr : Region.ready .any ops listed = [] := by
      cases hr : Region.ready .any ops listed with
      | nil => rfl
      | cons j js =>
        have hm : j ∈ Region.ready .any ops listed := by rw [hr]; simp
        obtain ⟨h1, o, ho, _⟩ := mem_ready.1 hm
        have hj : j < ops.size := (Array.getElem?_eq_some_iff.1 ho).1
        have := getD_both' (l := listed) (i := j) (by rw [hli]; simp; omega)
        rw [this] at h1; cases h1
    exact wpAny_done hr (hQ _ _ _ h hs) fuel
  | o :: l, i, fuel, listed, st, a, w, hki, hl, hil, hc, hsz, hli, h, hs => by
    simp only [List.length_cons] at hil
    have hi : i < ops.size := by omega
    have ho : ops[i]? = some o := by
      have : (ops.toList.drop i)[0]? = some o := by rw [← hl]; rfl
      rw [List.getElem?_drop] at this; simpa using this
    have hun : listed.getD i true = false := by
      have h1 := hli i
      have hlt : i < listed.size := by omega
      simp [hlt] at h1 ⊢; exact h1
    have hcs := cnt_set (l := listed) (by omega) hun
    cases fuel with
    | zero => omega
    | succ fuel =>
      have honly : ∀ j, j ∈ Region.ready .any ops listed → j = i := fun j hj => by
        obtain ⟨h1, o', ho', _⟩ := mem_ready.1 hj
        have hjn : ¬ j < i := fun hh => by
          have := getD_both' (l := listed) (i := j) (by rw [hli]; simpa using hh)
          rw [this] at h1; cases h1
        rcases Nat.lt_or_ge i j with hij | hij
        · have := edge_ready hj ((drawOk_at hk ho').2.1 (by omega) i hij)
          rw [hli] at this; simp at this
        · omega
      have hready : i ∈ Region.ready .any ops listed := mem_ready.2 ⟨hun, o, ho, fun e he hb => by rw [hli]; simpa using (drawOk_at hk ho).1 e he hb⟩
      refine ⟨fun h0 => (by rw [h0] at hready; cases hready), fun j hj => ?_⟩
      have := honly j hj; subst this
      have ih : ∀ st' a' w', aOps P n ops l K st' → Sim F st' a' w' → wpAny P .any ops Q fuel (listed.setIfInBounds j true) a' w' := fun st' a' w' hh hs' =>
        tail_any hn hk hQ l (j + 1) fuel (listed.setIfInBounds j true) (by omega) (by
          have := congrArg List.tail hl
          simpa [List.tail_drop] using this) (by omega) (by omega) (by simpa using hsz) (fun q => by
          by_cases hq : q = j
          · subst hq
            have hlt : q < listed.size := by omega
            simp [hlt]
          · rw [Array.getD_eq_getD_getElem?, Array.getElem?_setIfInBounds_ne (Ne.symm hq), ← Array.getD_eq_getD_getElem?, hli]
            simp only [decide_eq_decide]; omega) hh hs'
      unfold wpOp
      rw [ho]
      simp only
      unfold aOps at h
      split at h
      · rename_i hg
        rw [if_pos (by simp [Region.wanted, hg])]
        exact .inl (aOp_sound hn h hs (fun st' a' w' hk' hs' => ih st' a' w' hk' hs'))
      · rename_i g want hg
        split at h
        · rename_i b hb
          have hs0 := hs
          obtain ⟨hd, htn, S, m, hm, hE⟩ := hs
          have hy := yielded_E htn hE hb
          by_cases hbw : b = some want
          · rw [if_pos (by simp [Region.wanted, hg, hy, hbw])]
            rw [if_pos hbw] at h
            exact .inl (aOp_sound hn h hs0 (fun st' a' w' hk' hs' => ih st' a' w' hk' hs'))
          · rw [if_neg (by simp [Region.wanted, hg, hy, hbw])]
            rw [if_neg hbw] at h
            obtain ⟨hdo, hk'⟩ := h
            exact ih _ _ _ hk' (Sim.put (hp := st.hp) (nx := st.nx) hd htn hE (fun x u hx => hx) hm (.s _) (by rw [hn]; exact hdo))
        · exact h.elim
theorem aDraw_sound1 (hn : F.n = n) {id : Nat} {K : St → Prop} {st : St} {a : Act} {w : World} {Q : Exit → Act → World → Prop} (h : P.follows .mixedOrders = true ∧ ∃ k, drawOk ops k = true ∧ aHead P n ops (ops.toList.take k) (fun st => aOps P n ops (ops.toList.drop k) K st) st) (hs : Sim F st a w) (hQ : ∀ st' a' w', K st' → Sim F st' a' w' → Q .normal a' w') :
    (Code.region id ops true).wp P Q a w := by
  obtain ⟨hmix, k, hk, hh⟩ := h
  refine wp_region_any hmix ?_
  obtain ⟨xs, st', hxl, hv, htail, he1, he2, hfull⟩ := head_vals _ hh
  have hll : (ops.toList.take k).length = min k ops.size := by simp
  have hget : ∀ i, i < k → (ops.toList.take k)[i]? = ops[i]? := fun i hi => by rw [List.getElem?_take, if_pos hi]; simp
  have hgo : ∀ i o, (ops.toList.take k)[i]? = some o → i < k ∧ ops[i]? = some o := fun i o ho => by
    have hi : i < k := by
      rw [List.getElem?_take] at ho
      split at ho
      · assumption
      · cases ho
    exact ⟨hi, by rw [← hget i hi]; exact ho⟩
  have main : ∀ (fuel : Nat) (listed : Array Bool) (a : Act) (w : World), cnt listed = fuel → listed.size = ops.size → (∀ i o, ops[i]? = some o → listed.getD i false = true → ∀ e ∈ o.after, Region.binds .any e = true → listed.getD e.on false = true) →
      (∀ i, k ≤ i → listed.getD i false = false) → SimE F (EL (fun j => listed.getD j false) st.E 0 (ops.toList.take k) xs) st.hp st.nx a w → wpAny P .any ops Q fuel listed a w := by
    have toTail : ∀ (fuel : Nat) (listed : Array Bool) (a : Act) (w : World), cnt listed = fuel → listed.size = ops.size → (∀ j, listed.getD j false = decide (j < min k ops.size)) →
        SimE F (EL (fun j => listed.getD j false) st.E 0 (ops.toList.take k) xs) st.hp st.nx a w → wpAny P .any ops Q fuel listed a w := by
      intro fuel listed a w hc hsz hli hs
      have hE : EL (fun j => listed.getD j false) st.E 0 (ops.toList.take k) xs = st'.E := by
        rw [hfull (fun _ => true) (fun _ => rfl) 0]
        funext t
        refine EL_congr _ _ t _ _ _ _ 0 rfl (fun i o ho _ => ?_)
        have hlt : i < min k ops.size := by rw [← hll]; exact (List.getElem?_eq_some_iff.1 ho).1
        rw [hli]; simp only [Nat.zero_add]; exact decide_eq_true hlt
      rw [hE, ← he1, ← he2] at hs
      by_cases hks : k ≤ ops.size
      · exact tail_any hn hk hQ _ k fuel listed (Nat.le_refl _) rfl (by simp; omega) hc hsz (fun j => by rw [hli, Nat.min_eq_left hks]) htail hs
      · have hd : ops.toList.drop k = [] := List.drop_eq_nil_iff.2 (by simp; omega)
        rw [hd] at htail
        have hr : Region.ready .any ops listed = [] := by
          cases hr : Region.ready .any ops listed with
          | nil => rfl
          | cons j js =>
            have hm : j ∈ Region.ready .any ops listed := by rw [hr]; simp
            obtain ⟨h1, o, ho, _⟩ := mem_ready.1 hm
            have hj : j < ops.size := (Array.getElem?_eq_some_iff.1 ho).1
            have := getD_both' (l := listed) (i := j) (by rw [hli]; simp; omega)
            rw [this] at h1; cases h1
        exact wpAny_done hr (hQ _ _ _ htail hs) fuel
    intro fuel
    induction fuel with
    | zero =>
      intro listed a w hc hsz hcl htl hs
      refine toTail 0 listed a w hc hsz (fun j => ?_) hs
      by_cases hj : j < ops.size
      · have := cnt_zero hc j (by omega)
        rw [this]; symm; apply decide_eq_true
        rcases Nat.lt_or_ge j k with h1 | h1
        · omega
        · rw [htl j h1] at this; cases this
      · have : listed.getD j false = false := by simp [Array.getElem?_eq_none (by omega : listed.size ≤ j)]
        rw [this]; symm; apply decide_eq_false; omega
    | succ fuel ih =>
      intro listed a w hc hsz hcl htl hs
      by_cases hhead : ∀ j, j < min k ops.size → listed.getD j false = true
      · refine toTail _ listed a w hc hsz (fun j => ?_) hs
        by_cases hj : j < min k ops.size
        · rw [hhead j hj]; symm; exact decide_eq_true hj
        · have : listed.getD j false = false := by
            rcases Nat.lt_or_ge j ops.size with h1 | h1
            · exact htl j (by omega)
            · simp [Array.getElem?_eq_none (by omega : listed.size ≤ j)]
          rw [this]; symm; exact decide_eq_false hj
      · refine ⟨fun h0 => ?_, fun i hi => ?_⟩
        · exact absurd (fun j hj => all_listed hk h0 hsz j (by omega)) hhead
        · obtain ⟨hun, o, ho, hafter⟩ := mem_ready.1 hi
          have hisz : i < ops.size := (Array.getElem?_eq_some_iff.1 ho).1
          have hunf : listed.getD i false = false := by
            have hlt : i < listed.size := by omega
            simp [hlt] at hun ⊢; exact hun
          have hik : i < k := by
            rcases Nat.lt_or_ge i k with h1 | h1
            · exact h1
            · exact absurd (fun j hj => edge_ready hi ((drawOk_at hk ho).2.1 h1 j (by omega))) hhead
          obtain ⟨x, hx, hst⟩ := head_at _ _ _ 0 hv i o (by rw [hget i hik]; exact ho)
          have hst' : StepV P n ops st.hp st.nx (EL (fun j => listed.getD j false) st.E 0 (ops.toList.take k) xs) o x := by
            refine step_congr (fun t ht => ?_) hst
            refine EL_congr _ _ t _ _ _ _ 0 rfl (fun j o' hj hd => ?_)
            obtain ⟨hjk, hj'⟩ := hgo j o' hj
            simp only [Nat.zero_add]
            by_cases hji : j = i
            · subst hji; rw [hunf]; simp
            · obtain ⟨_, h2⟩ := (drawOk_at hk ho).2.2 hik j o' t hj' hji hd
              obtain ⟨h3, h4⟩ := h2 ht
              rcases Nat.lt_or_gt_of_ne hji with h5 | h5
              · rw [edge_ready hi (h3 h5)]; symm; exact decide_eq_true h5
              · have hnl : listed.getD j false = false := by
                  cases hl : listed.getD j false with
                  | false => rfl
                  | true =>
                    have he := h4 h5
                    unfold edge at he
                    rw [hj'] at he
                    obtain ⟨e, hm, hb⟩ := Array.any_eq_true'.1 he
                    simp only [Bool.and_eq_true, beq_iff_eq] at hb
                    have := hcl j o' hj' hl e hm hb.1
                    rw [hb.2, hunf] at this; cases this
                rw [hnl]; symm; exact decide_eq_false (by omega)
          refine stepV_sound hn ho hst' hs (fun a' w' hs' => ?_)
          have hcs := cnt_set (l := listed) (i := i) (by omega) hun
          refine ih (listed.setIfInBounds i true) a' w' (by omega) (by simpa using hsz) (fun j o' hj hl e he hb => ?_) (fun j hj => ?_) ?_
          · have keep : ∀ q, listed.getD q false = true → (listed.setIfInBounds i true).getD q false = true := fun q hq => getD_set_true hq
            by_cases hji : j = i
            · subst hji
              rw [ho] at hj; injection hj with hj; subst hj
              exact keep _ (hafter e he hb)
            · refine keep _ (hcl j o' hj ?_ e he hb)
              rw [getD_set_ne false (Ne.symm hji)] at hl; exact hl
          · rw [getD_set_ne false (by omega)]; exact htl j hj
          · have : EL (fun j => (listed.setIfInBounds i true).getD j false) st.E 0 (ops.toList.take k) xs = updE (EL (fun j => listed.getD j false) st.E 0 (ops.toList.take k) xs) o.dst x := by
              funext t
              unfold updE
              by_cases hd : o.dst = some t
              · rw [if_pos hd]
                refine EL_hit _ t _ _ _ 0 i o x (by rw [hget i hik]; exact ho) hx hd ?_ (fun j o' hj hji hd' => ?_)
                · have hlt : i < listed.size := by omega
                  simp [hlt]
                · obtain ⟨_, hj'⟩ := hgo j o' hj
                  exact ((drawOk_at hk ho).2.2 hik j o' t hj' hji hd').1 hd
              · rw [if_neg hd]
                refine EL_congr _ _ t _ _ _ _ 0 rfl (fun j o' hj hd' => ?_)
                obtain ⟨hjk, hj'⟩ := hgo j o' hj
                simp only [Nat.zero_add]
                by_cases hji : j = i
                · subst hji; rw [ho] at hj'; injection hj' with hj'; subst hj'; exact absurd hd' hd
                · exact getD_set_ne false (Ne.symm hji)
            rw [this]; exact hs'
  have hs0 : SimE F st.E st.hp st.nx a w.drew := by
    obtain ⟨hd, htn, S, m, hm, hE⟩ := hs
    exact ⟨hd, htn, S, m, hm.below (below_drew w), fun t x h => ⟨(hE t x h).1, (hE t x h).2.belowW (below_drew w)⟩⟩
  have hrep : ∀ j, (Array.replicate ops.size false).getD j false = false := fun j => by
    rcases Nat.lt_or_ge j ops.size with h1 | h1
    · simp [h1]
    · simp [Array.getElem?_eq_none (by simpa using h1 : (Array.replicate ops.size false).size ≤ j)]
  refine main ops.size (Array.replicate ops.size false) a w.drew ?_ (by simp) (fun i o ho hl => by rw [hrep] at hl; cases hl) (fun i _ => hrep i) ?_
  · unfold cnt
    rw [Array.toList_replicate, List.countP_replicate]; simp
  · have : EL (fun j => (Array.replicate ops.size false).getD j false) st.E 0 (ops.toList.take k) xs = st.E := funext fun t => EL_none _ t _ _ _ 0 (fun i o _ _ => hrep _)
    rw [this]; exact hs0
end
end Go.Proofs.Ytgggekjhfdkgkaa.Ab
