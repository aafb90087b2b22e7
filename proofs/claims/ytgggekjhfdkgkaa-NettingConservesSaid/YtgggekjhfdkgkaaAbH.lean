/- Abstract runs, part 8: calls, and operations in the order of the text. -/
import Derived.Test.YtgggekjhfdkgkaaAbG
namespace Go.Proofs.Ytgggekjhfdkgkaa.Ab
open Go Go.RowKit Go.Shelf

/-- The blocks that a call may write. -/
def Lv (hp : List (Nat × Blk)) (m : Nat → Nat × Nat) (i : Nat) : Prop := ∃ b k, get b hp = some k ∧ (m b).1 = i
/-- What a function does: it returns r, and its blocks hold hp' behind it. -/
def Spec (P : Program) (f : FuncId) (args : List AV) (hp : List (Nat × Blk)) (nx : Nat) (r : AV) (hp' : List (Nat × Blk)) (nx' : Nat) : Prop :=
  Enters P f ∧ ∀ (w : World) (S : Nat → Prop) (m : Nat → Nat × Nat) (vs : Array Value), Mem ⟨w, Lv hp m, S, 0, m, nx⟩ hp nx w S m → RepA w S m nx args vs →
    Calls P f vs w fun e w' => ∃ v S' m', e = .returned v ∧ Mem ⟨w, Lv hp m, S, 0, m, nx⟩ hp' nx' w' S' m' ∧ Rep w' S' m' nx' r v
/-- Whatever one value stands for, the other one stands for, too. -/
def Sub (x y : AV) : Prop := ∀ w S m nx v, Rep w S m nx x v → Rep w S m nx y v
theorem Sub.refl (x : AV) : Sub x x := fun _ _ _ _ _ h => h
theorem Sub.nil (sz : Nat) : Sub (.s (.slice none 0 0)) (.sl sz []) := fun _ _ _ _ _ h => by cases h; exact .sl0 _ _
inductive SubL : List AV → List AV → Prop
  | nil : SubL [] []
  | cons {x y : AV} {xs ys : List AV} (h : Sub x y) (hl : SubL xs ys) : SubL (x :: xs) (y :: ys)
theorem SubL.refl : ∀ xs, SubL xs xs
  | [] => .nil
  | x :: xs => .cons (Sub.refl x) (SubL.refl xs)
/-- The blocks that a call is not given. -/
def frame (hp1 : List (Nat × Blk)) : List (Nat × Blk) → List (Nat × Blk)
  | [] => []
  | (b, k) :: l => match get b hp1 with
    | some _ => frame hp1 l
    | none => (b, k) :: frame hp1 l
theorem get_frame (hp1 : List (Nat × Blk)) (b : Nat) : ∀ hp, get b (frame hp1 hp) = match get b hp1 with
    | some _ => none
    | none => get b hp
  | [] => by unfold frame get; split <;> rfl
  | (c, k) :: l => by
    have ih := get_frame hp1 b l
    unfold frame
    cases hc : get c hp1 with
    | some _ =>
      simp only []
      rw [ih]
      cases hb : get b hp1 with
      | some _ => rfl
      | none =>
        simp only []
        have hne : b ≠ c := fun e => by subst e; rw [hb] at hc; cases hc
        show _ = if b = c then some k else get b l
        rw [if_neg hne]
    | none =>
      simp only []
      show (if b = c then some k else get b (frame hp1 l)) = _
      by_cases hne : b = c
      · subst hne
        rw [if_pos rfl, hc]
        show _ = if b = b then some k else get b l
        rw [if_pos rfl]
      · rw [if_neg hne, ih]
        cases hb : get b hp1 with
        | some _ => rfl
        | none =>
          show _ = if b = c then some k else get b l
          rw [if_neg hne]
theorem get_append {α : Type} (b : Nat) (l2 : List (Nat × α)) : ∀ l1 : List (Nat × α), get b (l1 ++ l2) = match get b l1 with
    | some k => some k
    | none => get b l2
  | [] => rfl
  | (c, k) :: l => by
    show (if b = c then some k else get b (l ++ l2)) = match (if b = c then some k else get b l) with
      | some k => some k
      | none => get b l2
    by_cases h : b = c
    · rw [if_pos h, if_pos h]
    · rw [if_neg h, if_neg h, get_append b l2 l]
section
variable {P : Program} {w w' : World} {S S' : Nat → Prop} {m m' : Nat → Nat × Nat} {nx nx' : Nat} {F : Fr} {hp hp1 hp1' : List (Nat × Blk)}
theorem Mem.sub (h : Mem F hp nx w S m) (hs : ∀ b k, get b hp1 = some k → get b hp = some k) : Mem ⟨w, Lv hp1 m, S, 0, m, nx⟩ hp1 nx w S m :=
  ⟨rfl, rfl, rfl, Nat.le_refl _, fun _ _ _ => rfl, fun _ _ => ⟨id, fun h _ => h⟩, fun _ _ => rfl, Nat.le_refl _, h.lt, fun b k hg => ⟨(h.live b k (hs b k hg)).1, (h.live b k (hs b k hg)).2.1, .inl ⟨b, k, hg, rfl⟩⟩, fun b k hg => h.cells b k (hs b k hg), fun b b' k k' hg hg' => h.inj b b' k k' (hs b k hg) (hs b' k' hg')⟩
/-- Behind a call. -/
theorem Mem.join (h : Mem F hp nx w S m) (hs : ∀ b k, get b hp1 = some k → get b hp = some k) (h' : Mem ⟨w, Lv hp1 m, S, 0, m, nx⟩ hp1' nx' w' S' m') (hk : ∀ b k, get b hp1' = some k → b < nx → (get b hp1).isSome = true) :
    Mem F (hp1' ++ frame hp1 hp) nx' w' S' m' ∧ Carries w S m nx w' S' m' nx' := by
  have hnl : ∀ b k, get b hp = some k → get b hp1 = none → ¬ Lv hp1 m (m b).1 := fun b k hg hn ⟨b', k', hb', he⟩ => by
    have := h.inj b' b k' k (hs _ _ hb') hg he
    subst this; rw [hn] at hb'; cases hb'
  have hLS : ∀ i, Lv hp1 m i → S i ∧ (F.S0 i ∨ F.w0.heap.size ≤ i) := fun i ⟨b, k, hb, he⟩ => by rw [← he]; exact (h.live b k (hs b k hb)).2
  have hcar : Carries w S m nx w' S' m' nx' := fun x u hr => hr.mono (fun i hi hS => ⟨h'.keep i hi (fun hl => hS (hLS i hl).1), fun hh => hS ((h'.old i hi).1 hh)⟩) (fun b hb => h'.agree b hb) h'.nile
  have hget : ∀ b k, get b (hp1' ++ frame hp1 hp) = some k → get b hp1' = some k ∨ (get b hp1' = none ∧ get b hp1 = none ∧ get b hp = some k) := fun b k hg => by
    rw [get_append, get_frame] at hg
    cases h1 : get b hp1' with
    | some k' => rw [h1] at hg; exact .inl hg
    | none =>
      rw [h1] at hg
      simp only at hg
      cases h2 : get b hp1 with
      | some _ => rw [h2] at hg; cases hg
      | none => rw [h2] at hg; exact .inr ⟨rfl, rfl, hg⟩
  have hfr : ∀ b k, get b hp = some k → get b hp1 = none → b < nx ∧ m' b = m b ∧ (m b).1 < w.heap.size := fun b k hg _ => ⟨(h.live b k hg).1, h'.agree b (h.live b k hg).1, h.lt _ (h.live b k hg).2.1⟩
  refine ⟨⟨h'.os.trans h.os, h'.tape.trans h.tape, h'.output.trans h.output, Nat.le_trans h.size h'.size, fun i hi hn => ?_, fun i hi => ⟨fun hh => ?_, fun hh h0 => ?_⟩, fun b hb => ?_, Nat.le_trans h.nile h'.nile, h'.lt, fun b k hg => ?_, fun b k hg => ?_, fun b b' k k' hg hg' he => ?_⟩, hcar⟩
  · refine (h'.keep i (Nat.lt_of_lt_of_le hi h.size) (fun hl => ?_)).trans (h.keep i hi hn)
    rcases (hLS i hl).2 with h1 | h1
    · exact hn h1
    · omega
  · exact (h.old i hi).1 ((h'.old i (Nat.lt_of_lt_of_le hi h.size)).1 hh)
  · refine (h'.old i (Nat.lt_of_lt_of_le hi h.size)).2 ((h.old i hi).2 hh h0) (fun hl => ?_)
    rcases (hLS i hl).2 with h1 | h1
    · exact h0 h1
    · omega
  · exact (h'.agree b (Nat.lt_of_lt_of_le hb h.nile)).trans (h.agree b hb)
  · rcases hget b k hg with h1 | ⟨_, h2, h3⟩
    · obtain ⟨l1, l2, l3⟩ := h'.live b k h1
      exact ⟨l1, l2, l3.elim (fun hl => (hLS _ hl).2) (fun hl => .inr (Nat.le_trans h.size hl))⟩
    · obtain ⟨f1, f2, f3⟩ := hfr b k h3 h2
      rw [f2]
      exact ⟨Nat.lt_of_lt_of_le f1 h'.nile, (h'.old _ f3).2 (h.live b k h3).2.1 (hnl b k h3 h2), (h.live b k h3).2.2⟩
  · rcases hget b k hg with h1 | ⟨_, h2, h3⟩
    · exact h'.cells b k h1
    · obtain ⟨f1, f2, f3⟩ := hfr b k h3 h2
      rw [f2]
      obtain ⟨cur, c1, c2, c3⟩ := h.cells b k h3
      exact ⟨cur, (h'.keep _ f3 (hnl b k h3 h2)).trans c1, fun j x hx => by obtain ⟨v, h1, h2⟩ := c2 j x hx; exact ⟨v, h1, hcar _ _ h2⟩, c3⟩
  · have cross : ∀ b b' k k', get b hp1' = some k → get b' hp = some k' → get b' hp1 = none → (m' b).1 ≠ (m' b').1 := fun b b' k k' h1 h3 h2 he => by
      obtain ⟨f1, f2, f3⟩ := hfr b' k' h3 h2
      rw [f2] at he
      rcases (h'.live b k h1).2.2 with hl | hl
      · rw [he] at hl; exact hnl b' k' h3 h2 hl
      · rw [he] at hl; simp only at hl; omega
    rcases hget b k hg with h1 | ⟨h1, h2, h3⟩ <;> rcases hget b' k' hg' with h4 | ⟨h4, h5, h6⟩
    · exact h'.inj b b' k k' h1 h4 he
    · exact absurd he (cross b b' k k' h1 h6 h5)
    · exact absurd he.symm (cross b' b k' k h4 h3 h2)
    · rw [(hfr b k h3 h2).2.1, (hfr b' k' h6 h5).2.1] at he
      exact h.inj b b' k k' h3 h6 he
end

/-- The slots and the own blocks. -/
structure St where
  env : List (Nat × AV)
  hp : List (Nat × Blk)
  nx : Nat
def St.E (st : St) (t : Nat) : Option AV := get t st.env
def St.put (st : St) (d : Option Tmp) (x : AV) : St := match d with
  | some d => ⟨(d, x) :: st.env, st.hp, st.nx⟩
  | none => st
def Sim (F : Fr) (st : St) (a : Act) (w : World) : Prop := SimE F st.E st.hp st.nx a w
def dstOk (n : Nat) (d : Option Tmp) : Prop := match d with
  | some d => d < n
  | none => True
def aArgs (ρ : Operand → Option AV) : List Operand → Option (List AV)
  | [] => some []
  | o :: l => match ρ o, aArgs ρ l with
    | some x, some r => some (x :: r)
    | _, _ => none
/-- Two structs or arrays are compared. -/
def EqOk (P : Program) (op : BinOp) (t : TypeId) (x y : AV) (b : Bool) : Prop :=
  ∀ w S m nx u v (p q : Operand), Rep w S m nx x u → Rep w S m nx y v → (do eqGuard op t p q u v; binOp op t u v : Sem Value).run P w = .ok (.bool b) w
/-- A comparison of two structs or arrays, and what comes behind it. -/
def CmpP (P : Program) (op : BinOp) (t : TypeId) (x y : AV) (K : Bool → Prop) : Prop := ∃ b, EqOk P op t x y b ∧ K b
/-- A call, and what comes behind it. -/
def CallP (P : Program) (f : FuncId) (args : List AV) (hp : List (Nat × Blk)) (nx : Nat) (K : AV → List (Nat × Blk) → Nat → Prop) : Prop :=
  ∃ args' hp1 r hp1' nx', SubL args args' ∧ Spec P f args' hp1 nx r hp1' nx' ∧ (∀ b k, get b hp1 = some k → get b hp = some k) ∧ (∀ b k, get b hp1' = some k → b < nx → (get b hp1).isSome = true) ∧ K r (hp1' ++ frame hp1 hp) nx'
/-- A call that leaves all blocks as they are. -/
def CallH (P : Program) (f : FuncId) (args : List AV) (hp : List (Nat × Blk)) (nx : Nat) (K : AV → Prop) : Prop :=
  ∃ args' hp1 r, SubL args args' ∧ Spec P f args' hp1 nx r hp1 nx ∧ (∀ b k, get b hp1 = some k → get b hp = some k) ∧ K r
/-- One operation, in the order of the text. -/
def aOp (P : Program) (n : Nat) (o : Oper) (K KL : St → Prop) (st : St) : Prop :=
  match aPure P (aEv st.E) st.hp o.op with
  | some x => dstOk n o.dst ∧ K (st.put o.dst x)
  | none => match aHeap P (aEv st.E) st.hp st.nx o.op with
    | some (x, hp, nx) => dstOk n o.dst ∧ K ((St.mk st.env hp nx).put o.dst x)
    | none => match o.op with
      | .binOp op t x y _ => (match aEv st.E x, aEv st.E y with
        | some x, some y => CmpP P op t x y fun b => dstOk n o.dst ∧ KL (st.put o.dst (.s (.bool b)))
        | _, _ => False)
      | .call c => (match c.callee with
        | .value f => (match aEv st.E f, aArgs (aEv st.E) c.args.toList with
          | some (.fn f caps), some args => CallP P f (args ++ caps) st.hp st.nx fun r hp nx => dstOk n o.dst ∧ KL ((St.mk st.env hp nx).put o.dst r)
          | _, _ => False)
        | _ => False)
      | _ => False
/-- A slot's value as a condition; none inside: no condition was reckoned there. -/
def yv : Option AV → Option (Option Bool)
  | some (.s (.bool b)) => some (some b)
  | some (.s (.tuple _)) => some none
  | _ => none
theorem yv_some {x : Option AV} {o : Option Bool} (h : yv x = some o) : ∃ v, x = some (.s v) ∧ o = (match v with
    | .bool b => some b
    | _ => none) := by
  unfold yv at h
  split at h
  · injection h with h; subst h; exact ⟨_, rfl, rfl⟩
  · injection h with h; subst h; exact ⟨_, rfl, rfl⟩
  · cases h
def aOps (P : Program) (n : Nat) (ops : Array Oper) : List Oper → (St → Prop) → St → Prop
  | [], K, st => K st
  | o :: l, K, st => match o.guard with
    | none => aOp P n o (aOps P n ops l K) (aOps P n ops l K) st
    | some (j, want) => match yv (((ops[j]?).bind (·.dst)).bind st.E) with
      | some b => if b = some want then aOp P n o (aOps P n ops l K) (aOps P n ops l K) st else dstOk n o.dst ∧ aOps P n ops l K (st.put o.dst (.s undef))
      | none => False
/-- What is still to come behind a call is looked at later. -/
def aLock (P : Program) (n : Nat) (ops : Array Oper) (l : List Oper) (K : St → Prop) (st : St) : Prop := aOps P n ops l K st
theorem aOps_nil (P : Program) (n : Nat) (ops : Array Oper) (K : St → Prop) (st : St) : aOps P n ops [] K st = K st := rfl
theorem aOps_cons (P : Program) (n : Nat) (ops : Array Oper) (o : Oper) (l : List Oper) (K : St → Prop) (st : St) : aOps P n ops (o :: l) K st = match o.guard with
    | none => aOp P n o (aOps P n ops l K) (aLock P n ops l K) st
    | some (j, want) => match yv (((ops[j]?).bind (·.dst)).bind st.E) with
      | some b => if b = some want then aOp P n o (aOps P n ops l K) (aLock P n ops l K) st else dstOk n o.dst ∧ aOps P n ops l K (st.put o.dst (.s undef))
      | none => False := rfl
section
variable {P : Program} {F : Fr} {a : Act} {w : World}
theorem Sim.ev {st : St} {S : Nat → Prop} {m : Nat → Nat × Nat} (hE : ∀ t x, st.E t = some x → t < F.n ∧ Rep w S m st.nx x (a.tmps.getD t undef)) : ∀ o x, aEv st.E o = some x → Rep w S m st.nx x (a.eval o) := fun o x h => aEv_rep hE h
/-- A value is laid into a slot. -/
theorem Sim.put {st : St} {S S' : Nat → Prop} {m m' : Nat → Nat × Nat} {w' : World} {hp : List (Nat × Blk)} {nx : Nat} {d : Option Tmp} {x : AV} {v : Value} (hd : a.defers = []) (hn : a.tmps.size = F.n)
    (hE : ∀ t x, st.E t = some x → t < F.n ∧ Rep w S m st.nx x (a.tmps.getD t undef)) (hc : Carries w S m st.nx w' S' m' nx) (hm : Mem F hp nx w' S' m') (hx : Rep w' S' m' nx x v) (hok : dstOk F.n d) :
    Sim F ((St.mk st.env hp nx).put d x) (a.put d v) w' := by
  cases d with
  | none => exact ⟨hd, hn, S', m', hm, fun t y h => ⟨(hE t y h).1, hc _ _ (hE t y h).2⟩⟩
  | some d =>
    refine ⟨hd, by simp [Act.put, hn], S', m', hm, fun t y h => ?_⟩
    have h' : (if t = d then some x else get t st.env) = some y := h
    by_cases htd : t = d
    · subst htd
      rw [if_pos rfl] at h'
      injection h' with h'; subst h'
      have hok' : t < F.n := hok
      have hlt : t < a.tmps.size := by rw [hn]; exact hok'
      refine ⟨hok', ?_⟩
      simp only [Act.put]
      rw [Array.getD_eq_getD_getElem?, Array.getElem?_setIfInBounds_self, if_pos hlt]
      exact hx
    · rw [if_neg htd] at h'
      obtain ⟨h1, h2⟩ := hE t y h'
      refine ⟨h1, ?_⟩
      simp only [Act.put]
      rw [Array.getD_eq_getD_getElem?, Array.getElem?_setIfInBounds_ne (Ne.symm htd), ← Array.getD_eq_getD_getElem?]
      exact hc _ _ h2
theorem args_rep {w : World} {S : Nat → Prop} {m : Nat → Nat × Nat} {nx : Nat} {ρ : Operand → Option AV} {ev : Operand → Value} (hρ : ∀ o x, ρ o = some x → Rep w S m nx x (ev o)) : ∀ (l : List Operand) (xs : List AV), aArgs ρ l = some xs → RepA w S m nx xs (l.map ev).toArray
  | [], xs, h => by injection h with h; subst h; exact ⟨rfl, fun j a b ha => by simp at ha⟩
  | o :: l, xs, h => by
    unfold aArgs at h
    split at h
    · rename_i x r hx hr
      injection h with h; subst h
      obtain ⟨h1, h2⟩ := args_rep hρ l r hr
      refine ⟨by simpa using h1, fun j a b ha hb => ?_⟩
      cases j with
      | zero => simp at ha hb; subst ha; subst hb; exact hρ _ _ hx
      | succ j => exact h2 j a b (by simpa using ha) (by simpa using hb)
    · cases h
theorem repA_append {w : World} {S : Nat → Prop} {m : Nat → Nat × Nat} {nx : Nat} {xs ys : List AV} {us vs : Array Value} (h1 : RepA w S m nx xs us) (h2 : RepA w S m nx ys vs) : RepA w S m nx (xs ++ ys) (us ++ vs) :=
  ⟨by simp [h1.1, h2.1], fun j a b ha hb => by
    by_cases hj : j < xs.length
    · rw [List.getElem?_append_left hj] at ha
      rw [Array.getElem?_append_left (by rw [← h1.1]; exact hj)] at hb
      exact h1.2 j a b ha hb
    · rw [List.getElem?_append_right (by omega)] at ha
      rw [Array.getElem?_append_right (by rw [← h1.1]; omega), ← h1.1] at hb
      exact h2.2 _ a b ha hb⟩
theorem repA_sub {w : World} {S : Nat → Prop} {m : Nat → Nat × Nat} {nx : Nat} : ∀ {xs ys : List AV}, SubL xs ys → ∀ {vs : Array Value}, RepA w S m nx xs vs → RepA w S m nx ys vs := by
  intro xs ys h
  have hl : xs.length = ys.length := by
    induction h with
    | nil => rfl
    | cons _ _ ih => simp [ih]
  have hg : ∀ (j : Nat) (y : AV), ys[j]? = some y → ∃ x, xs[j]? = some x ∧ Sub x y := by
    induction h with
    | nil => intro j y hy; simp at hy
    | cons h1 _ ih =>
      intro j y hy
      cases j with
      | zero => simp at hy; subst hy; exact ⟨_, rfl, h1⟩
      | succ j => simpa using ih (by simpa using hl) j y (by simpa using hy)
  intro vs hr
  exact ⟨by rw [← hl]; exact hr.1, fun j y b hy hb => by
    obtain ⟨x, hx, hs⟩ := hg j y hy
    exact hs _ _ _ _ _ (hr.2 j x b hx hb)⟩
theorem aOp_sound {n : Nat} (hn : F.n = n) {o : Oper} {K : St → Prop} {st : St} (h : aOp P n o K K st) (hs : Sim F st a w) {K' : Act → World → Prop} {Q : Exit → Act → World → Prop} (hK : ∀ st' a' w', K st' → Sim F st' a' w' → K' a' w') : o.wp P a w K' Q := by
  obtain ⟨hd, htn, S, m, hm, hE⟩ := hs
  have hρ := Sim.ev hE
  unfold aOp at h
  unfold Oper.wp
  split at h
  · rename_i x hx
    obtain ⟨v, w', hr, hb, hrep⟩ := aPure_sound hm hρ o hx
    rw [hr]
    exact hK _ _ _ h.2 (Sim.put (hp := st.hp) (nx := st.nx) hd htn hE (fun x u hx => hx.belowW hb) (hm.below hb) hrep (by rw [hn]; exact h.1))
  · split at h
    · rename_i x hp nx hx
      obtain ⟨z, w', S', m', hr, h1, h2, h3⟩ := aHeap_sound hm hρ o hx
      rcases hr with hr | ⟨hr, rfl⟩
      · rw [hr]
        exact hK _ _ _ h.2 (Sim.put hd htn hE h2 h1 h3 (by rw [hn]; exact h.1))
      · rw [hr]
        exact hK _ _ _ h.2 (Sim.put hd htn hE h2 h1 h3 (by rw [hn]; exact h.1))
    · split at h
      · rename_i op t x y ty e
        split at h
        · rename_i x' y' hx hy
          obtain ⟨b, hb, hdo, hk⟩ := h
          have hr := hb w S m st.nx _ _ x y (hρ _ _ hx) (hρ _ _ hy)
          have : (execOp a.eval o).run P w = .ok (.value (.bool b)) w := by
            simp only [execOp, e]
            rw [Sem.run_bind, hr]; rfl
          rw [this]
          exact hK _ _ _ hk (Sim.put (hp := st.hp) (nx := st.nx) hd htn hE (fun x u hx => hx) hm (.s _) (by rw [hn]; exact hdo))
        · exact h.elim
      · rename_i c e
        split at h
        · rename_i f hcal
          split at h
          · rename_i g caps args hf hargs
            obtain ⟨args', hp1, r, hp1', nx', hsub, ⟨hent, hspec⟩, hs1, hk1, hdo, hk⟩ := h
            have hfr := hρ _ _ hf
            obtain ⟨fv, hfv⟩ : ∃ fv, a.eval f = fv := ⟨_, rfl⟩
            rw [hfv] at hfr
            cases hfr with
            | fn cv hl hcr =>
              have ha := args_rep hρ _ _ hargs
              have hall := repA_sub hsub (repA_append ha ⟨hl, hcr⟩)
              have hcall := hspec w S m _ (hm.sub hs1) hall
              have hrun : (execOp a.eval o).run P w = .ok (.enter g ((c.args.toList.map a.eval).toArray ++ cv)) w := by
                obtain ⟨cal, cargs, cts⟩ := c
                simp only at hcal
                subst hcal
                have he := hent ((cargs.toList.map a.eval).toArray ++ cv) w
                have hmap : cargs.map a.eval = (cargs.toList.map a.eval).toArray := by obtain ⟨l⟩ := cargs; simp
                simp only [execOp, e, resolve, Deferred.ofValue, hfv, hmap, Sem.run_bind, Sem.run_pure, Result.andThen_ok, invoke, Array.empty_append]
                exact he
              rw [hrun]
              refine Calls.mono hcall fun e' w' ⟨v, S', m', he', hm', hrep⟩ => ?_
              subst he'
              obtain ⟨j1, j2⟩ := hm.join hs1 hm' hk1
              exact hK _ _ _ hk (Sim.put hd htn hE j2 j1 hrep (by rw [hn]; exact hdo))
          · exact h.elim
        · exact h.elim
      · exact h.elim
theorem yielded_E {st : St} {S : Nat → Prop} {m : Nat → Nat × Nat} {ops : Array Oper} {j : Nat} {b : Option Bool} (htn : a.tmps.size = F.n) (hE : ∀ t x, st.E t = some x → t < F.n ∧ Rep w S m st.nx x (a.tmps.getD t undef))
    (h : yv (((ops[j]?).bind (·.dst)).bind st.E) = some b) : yielded ops a.tmps j = b := by
  obtain ⟨v, hv0, hb⟩ := yv_some h
  obtain ⟨t, ht, h2⟩ := bind_some' hv0
  obtain ⟨h3, h4⟩ := hE t _ h2
  have hlt : t < a.tmps.size := by rw [htn]; exact h3
  unfold yielded
  rw [ht]
  have hv : a.tmps[t]? = some (a.tmps.getD t undef) := by simp [hlt]
  obtain ⟨u, hu⟩ : ∃ u, a.tmps.getD t undef = u := ⟨_, rfl⟩
  rw [hu] at h4 hv
  cases h4
  show (match a.tmps[t]? with
    | some (.bool b) => some b
    | _ => none) = b
  rw [hv, hb]
  cases v <;> rfl
theorem aOps_sound {n : Nat} (hn : F.n = n) {ops : Array Oper} {Q : Exit → Act → World → Prop} : ∀ (l : List Oper) {K : St → Prop} {st : St} {a : Act} {w : World}, aOps P n ops l K st → Sim F st a w → (∀ st' a' w', K st' → Sim F st' a' w' → Q .normal a' w') → wpList P ops Q l a w
  | [], K, st, a, w, h, hs, hQ => hQ _ _ _ h hs
  | o :: l, K, st, a, w, h, hs, hQ => by
    unfold aOps at h
    unfold wpList
    split at h
    · rename_i hg
      rw [if_pos (by simp [Region.wanted, hg])]
      exact .inl (aOp_sound hn h hs (fun st' a' w' hk hs' => aOps_sound hn l hk hs' hQ))
    · rename_i j want hg
      split at h
      · rename_i b hb
        have hs0 := hs
        obtain ⟨hd, htn, S, m, hm, hE⟩ := hs
        have hy := yielded_E htn hE hb
        by_cases hbw : b = some want
        · rw [if_pos (by simp [Region.wanted, hg, hy, hbw])]
          rw [if_pos hbw] at h
          exact .inl (aOp_sound hn h hs0 (fun st' a' w' hk hs' => aOps_sound hn l hk hs' hQ))
        · rw [if_neg (by simp [Region.wanted, hg, hy, hbw])]
          rw [if_neg hbw] at h
          obtain ⟨hdo, hk⟩ := h
          exact aOps_sound hn l hk (Sim.put (hp := st.hp) (nx := st.nx) hd htn hE (fun x u hx => hx) hm (.s _) (by rw [hn]; exact hdo)) hQ
      · exact h.elim
end
end Go.Proofs.Ytgggekjhfdkgkaa.Ab
