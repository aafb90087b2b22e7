/- Abstract runs, part 9: the text of a function. -/
import Derived.Test.YtgggekjhfdkgkaaAbH
import Derived.Scope
import Derived.Deep.LoopGhost
namespace Go.Proofs.Ytgggekjhfdkgkaa.Ab
open Go Go.RowKit Go.Shelf

/-- An operation of a region that draws its order: it changes no slot but its own, and no block. -/
def EvalsTo (P : Program) (ρ : Operand → Option AV) (hp : List (Nat × Blk)) (nx : Nat) (o : Oper) (x : AV) : Prop :=
  match aPure P ρ hp o.op with
  | some y => x = y
  | none => match o.op with
    | .binOp op t p q _ => (match ρ p, ρ q with
      | some p, some q => ∃ b, EqOk P op t p q b ∧ x = .s (.bool b)
      | _, _ => False)
    | .call c => (match c.callee with
      | .value f => (match ρ f, aArgs ρ c.args.toList with
        | some (.fn f caps), some args => ∃ args' hp1, SubL (args ++ caps) args' ∧ Spec P f args' hp1 nx x hp1 nx ∧ (∀ b k, get b hp1 = some k → get b hp = some k)
        | _, _ => False)
      | _ => False)
    | _ => False
/-- One operation of the head of such a region. -/
def aOpH (P : Program) (n : Nat) (o : Oper) (K KL : St → Prop) (st : St) : Prop :=
  match aPure P (aEv st.E) st.hp o.op with
  | some x => dstOk n o.dst ∧ K (st.put o.dst x)
  | none => match o.op with
    | .binOp op t x y _ => (match aEv st.E x, aEv st.E y with
      | some x, some y => CmpP P op t x y fun b => dstOk n o.dst ∧ KL (st.put o.dst (.s (.bool b)))
      | _, _ => False)
    | .call c => (match c.callee with
      | .value f => (match aEv st.E f, aArgs (aEv st.E) c.args.toList with
        | some (.fn f caps), some args => CallH P f (args ++ caps) st.hp st.nx fun r => dstOk n o.dst ∧ KL (st.put o.dst r)
        | _, _ => False)
      | _ => False)
    | _ => False
def aHead (P : Program) (n : Nat) (ops : Array Oper) : List Oper → (St → Prop) → St → Prop
  | [], K, st => K st
  | o :: l, K, st => match o.guard with
    | none => aOpH P n o (aHead P n ops l K) (aHead P n ops l K) st
    | some (j, want) => match yv (((ops[j]?).bind (·.dst)).bind st.E) with
      | some b => if b = some want then aOpH P n o (aHead P n ops l K) (aHead P n ops l K) st else dstOk n o.dst ∧ aHead P n ops l K (st.put o.dst (.s undef))
      | none => False
theorem aOpH_evals {P : Program} {n : Nat} {o : Oper} {K : St → Prop} {st : St} (h : aOpH P n o K K st) : ∃ x, EvalsTo P (aEv st.E) st.hp st.nx o x ∧ dstOk n o.dst ∧ K (st.put o.dst x) := by
  unfold aOpH at h
  unfold EvalsTo
  split at h
  · rename_i x hx
    exact ⟨x, rfl, h⟩
  · split at h
    · rename_i op t p q ty e
      split at h
      · rename_i p' q' hp hq
        obtain ⟨b, hb, hk⟩ := h
        exact ⟨_, ⟨b, hb, rfl⟩, hk⟩
      · exact h.elim
    · rename_i c e
      split at h
      · rename_i f hf
        split at h
        · rename_i g caps args hg ha
          obtain ⟨args', hp1, r, h1, h2, h3, hk⟩ := h
          exact ⟨r, ⟨args', hp1, h1, h2, h3⟩, hk⟩
        · exact h.elim
      · exact h.elim
    · exact h.elim
/-- May the operations from number k on only come in the order of the text, behind all others, and are the others free of each other but for what is ordered? -/
def edge (ops : Array Oper) (i j : Nat) : Bool := match ops[i]? with
  | some o => o.after.any fun e => Region.binds .any e && e.on == j
  | none => false
def drawOk (ops : Array Oper) (k : Nat) : Bool :=
  (List.range ops.size).all fun i => match ops[i]? with
    | none => false
    | some o => (o.after.all fun e => !Region.binds .any e || decide (e.on < i)) &&
      (if k ≤ i then (List.range i).all fun j => edge ops i j else
        (List.range ops.size).all fun j => j == i || match (ops[j]?).bind (·.dst) with
          | none => true
          | some d => (o.dst != some d) && (!(o.looksAt ops).contains d || (if j < i then edge ops i j else edge ops j i)))
/-- It reads slots alone. -/
def slotOp : Op → Bool
  | .extract .. => true
  | .move _ => true
  | .assign _ => true
  | _ => false
/-- An operation that reads slots alone, which nobody writes from it on: it may come late. -/
def late (ops : Array Oper) (j : Nat) : Bool := match ops[j]? with
  | some o => o.guard.isNone && slotOp o.op && o.dst.isSome && (List.range ops.size).all fun i => decide (i < j) || match (ops[i]?).bind (·.dst) with
    | none => true
    | some d => !(o.looksAt ops).contains d
  | none => false
/-- For every operation the set of those that come before it, as bits. -/
def maskO (cl : List Nat) (o : Oper) : Nat := o.after.toList.foldl (fun m e => if Region.binds .any e = true then m ||| (1 <<< e.on) ||| cl.getD e.on 0 else m) 0
def masksFrom : List Oper → List Nat → List Nat
  | [], cl => cl
  | o :: l, cl => masksFrom l (cl ++ [maskO cl o])
def edgeT (ops : Array Oper) (i j : Nat) : Bool := ((masksFrom ops.toList []).getD i 0).testBit j
/-- As drawOk, but what may come late may come behind the tail's operations. -/
def drawOkL (ops : Array Oper) (k : Nat) : Bool :=
  let cl := masksFrom ops.toList []
  (List.range ops.size).all fun i => match ops[i]? with
    | none => false
    | some o => (o.after.all fun e => !Region.binds .any e || decide (e.on < i)) &&
      (if k ≤ i then (List.range i).all fun j => (cl.getD i 0).testBit j || (decide (j < k) && late ops j && match (ops[j]?).bind (·.dst) with
          | none => false
          | some d => !(o.looksAt ops).contains d && o.dst != some d) else
        (List.range ops.size).all fun j => j == i || match (ops[j]?).bind (·.dst) with
          | none => true
          | some d => (o.dst != some d) && (!(o.looksAt ops).contains d || (if j < i then (cl.getD i 0).testBit j else (cl.getD j 0).testBit i)))
/-- An operation that makes a variable. -/
def isAlloc (ops : Array Oper) (i : Nat) : Bool := match ops[i]? with
  | some o => o.guard.isNone && o.dst.isSome && match o.op with
    | .alloc _ => true
    | _ => false
  | none => false
/-- As drawOkL, but the e operations that make variables from number k on may come at any time before the others of the tail. -/
def drawOkE (ops : Array Oper) (k e : Nat) : Bool :=
  let cl := masksFrom ops.toList []
  decide (k + e ≤ ops.size) && (List.range ops.size).all fun i => match ops[i]? with
    | none => false
    | some o => (o.after.all fun e => !Region.binds .any e || decide (e.on < i)) &&
      (if i < k then (List.range ops.size).all fun j => j == i || match (ops[j]?).bind (·.dst) with
          | none => true
          | some d => (o.dst != some d) && (!(o.looksAt ops).contains d || (!(decide (k ≤ j) && decide (j < k + e)) && (if j < i then (cl.getD i 0).testBit j else (cl.getD j 0).testBit i)))
        else if i < k + e then isAlloc ops i && ((List.range ops.size).all fun j => j == i || match (ops[j]?).bind (·.dst) with
          | none => true
          | some d => o.dst != some d)
        else (List.range i).all fun j => (cl.getD i 0).testBit j || (decide (j < k) && late ops j && match (ops[j]?).bind (·.dst) with
          | none => false
          | some d => !(o.looksAt ops).contains d && o.dst != some d))
/-- The operations at the head of a list that make variables. -/
def allocN : List Oper → Nat
  | [] => 0
  | o :: l => match o.op with
    | .alloc _ => allocN l + 1
    | _ => 0
def aDraw (P : Program) (n : Nat) (ops : Array Oper) (K : St → Prop) (st : St) : Prop :=
  P.follows .mixedOrders = true ∧ ∃ k, (drawOk ops k = true ∨ drawOkL ops k = true ∨ ∃ e, drawOkE ops k e = true) ∧ aHead P n ops (ops.toList.take k) (fun st => aOps P n ops (ops.toList.drop k) K st) st
def aThen (K : St → Prop) (Q : Exit → St → Prop) : Exit → St → Prop
  | .normal, st => K st
  | e, st => Q e st
def aIn (id : Nat) (Q : Exit → St → Prop) : Exit → St → Prop
  | .exit id', st => if id' = id then Q .normal st else Q (.exit id') st
  | e, st => Q e st
def aNoGoto (Q : Exit → St → Prop) : Exit → St → Prop
  | .goto _, _ => False
  | e, st => Q e st
/-- What one state says, the other one says, too. -/
def St.to (lo : Nat) (st st' : St) : Prop := lo ≤ st'.nx ∧ ∀ F a w, F.ni ≤ lo → Sim F st a w → Sim F st' a w
/-- A loop: a relation that bears a number, which every round lowers. -/
def LoopP (lo : Nat) (body : (Exit → St → Prop) → St → Prop) (Q : Exit → St → Prop) (st : St) : Prop :=
  ∃ I : Nat → St → Prop, (∃ k st0, I k st0 ∧ St.to lo st st0) ∧ ∀ k st, I k st → body (aThen (fun st' => ∃ k' st'', k' < k ∧ I k' st'' ∧ St.to lo st' st'') Q) st
def awp (P : Program) (n lo : Nat) : Code → (Exit → St → Prop) → St → Prop
  | .skip, Q, st => Q .normal st
  | .region _ ops draw, Q, st => if draw = true then aDraw P n ops (Q .normal) st else aOps P n ops ops.toList (Q .normal) st
  | .seq x y, Q, st => awp P n lo x (aThen (fun st => ∃ st', St.to lo st st' ∧ awp P n lo y Q st') Q) st
  | .cond c x y, Q, st => match aEv st.E c with
    | some (.s (.bool b)) => (b = true → awp P n lo x Q st) ∧ (b = false → awp P n lo y Q st)
    | _ => False
  | .block id c, Q, st => awp P n lo c (aIn id Q) st
  | .loop c, Q, st => LoopP lo (awp P n lo c) Q st
  | .exit id, Q, st => Q (.exit id) st
  | .label _, Q, st => Q .normal st
  | .scope c, Q, st => awp P n lo c (aNoGoto Q) st
  | .ret, Q, st => Q .ret st
  | _, _, _ => False
/-- Where a function comes to its end. -/
def aResult (P : Program) (st : St) : ResultVar → Option AV
  | .tmp t => st.E t
  | .cell a t => (st.E a).bind (aLoad P t st.hp)
def aResults (P : Program) (st : St) : List ResultVar → Option (List AV)
  | [] => some []
  | r :: l => match aResult P st r, aResults P st l with
    | some x, some xs => some (x :: xs)
    | _, _ => none
def oneOf : List AV → AV
  | [x] => x
  | xs => .tup xs
def resVal (tmps : Array Value) : ResultVar → Sem Value
  | .tmp t => pure (tmps.getD t undef)
  | .cell p t => do loadVar t (← asAddr (tmps.getD p undef))
theorem results_eq (fn : Func) (tmps : Array Value) : results fn tmps = (do let vs ← fn.results.mapM (resVal tmps); pure (if h : vs.size = 1 then vs[0] else .tuple vs)) := by
  unfold results
  congr 1
/-- The same slots and blocks, one by one, so that a program can tell. -/
def subE (n : Nat) (env : List (Nat × AV)) : List (Nat × AV) → Prop
  | [] => True
  | (t, x) :: l => (get t env = some x ∧ x.keyed n 4 = true) ∧ subE n env l
def subH (n : Nat) (hp : List (Nat × Blk)) : List (Nat × Blk) → Prop
  | [] => True
  | (b, k) :: l => (get b hp = some k ∧ b < n ∧ k.cs.all (AV.keyed n 4) = true) ∧ subH n hp l
theorem subE_spec {n : Nat} {env : List (Nat × AV)} : ∀ {l : List (Nat × AV)}, subE n env l → ∀ t x, get t l = some x → get t env = some x ∧ x.keyed n 4 = true
  | [], _, t, x, h => by cases h
  | (k, y) :: l, hs, t, x, h => by
    have h' : (if t = k then some y else get t l) = some x := h
    split at h'
    · rename_i e; subst e; injection h' with h'; subst h'; exact hs.1
    · exact subE_spec hs.2 t x h'
theorem subH_spec {n : Nat} {hp : List (Nat × Blk)} : ∀ {l : List (Nat × Blk)}, subH n hp l → ∀ t x, get t l = some x → get t hp = some x ∧ t < n ∧ x.cs.all (AV.keyed n 4) = true
  | [], _, t, x, h => by cases h
  | (k, y) :: l, hs, t, x, h => by
    have h' : (if t = k then some y else get t l) = some x := h
    split at h'
    · rename_i e; subst e; injection h' with h'; subst h'; exact hs.1
    · exact subH_spec hs.2 t x h'
def aRet (P : Program) (rs : List ResultVar) (nx : Nat) (r : AV) (hp' : List (Nat × Blk)) (nx' : Nat) : Exit → St → Prop
  | .normal, st | .ret, st => (∃ xs, aResults P st rs = some xs ∧ r = oneOf xs) ∧ nx ≤ nx' ∧ r.keyed nx' 4 = true ∧ subH nx' st.hp hp'
  | _, _ => False
def initEnv : Nat → List AV → List (Nat × AV)
  | _, [] => []
  | k, x :: l => (k, x) :: initEnv (k + 1) l
section
variable {P : Program} {n : Nat} {F : Fr}
theorem get_init : ∀ (l : List AV) (k t : Nat), get t (initEnv k l) = if k ≤ t then l[t - k]? else none
  | [], k, t => by unfold initEnv get; split <;> simp
  | x :: l, k, t => by
    show (if t = k then some x else get t (initEnv (k + 1) l)) = _
    rw [get_init l (k + 1) t]
    by_cases h : t = k
    · subst h; simp
    · rw [if_neg h]
      by_cases h2 : k ≤ t
      · rw [if_pos h2, if_pos (by omega), show t - k = (t - (k + 1)) + 1 by omega, List.getElem?_cons_succ]
      · rw [if_neg h2, if_neg (by omega)]
theorem aResults_len {st : St} : ∀ {l : List ResultVar} {xs : List AV}, aResults P st l = some xs → xs.length = l.length
  | [], xs, h => by injection h with h; subst h; rfl
  | r :: l, xs, h => by
    unfold aResults at h
    split at h
    · rename_i x ys _ hys
      injection h with h; subst h
      simp [aResults_len hys]
    · cases h
theorem results_sound {st : St} {a : Act} {w : World} {S : Nat → Prop} {m : Nat → Nat × Nat} (hm : Mem F st.hp st.nx w S m) (hE : ∀ t x, st.E t = some x → t < F.n ∧ Rep w S m st.nx x (a.tmps.getD t undef)) :
    ∀ (l : List ResultVar) (xs : List AV), aResults P st l = some xs → ∃ vs : List Value, (l.mapM (resVal a.tmps) : Sem (List Value)).run P w = .ok vs w ∧ RepA w S m st.nx xs vs.toArray
  | [], xs, h => by injection h with h; subst h; exact ⟨[], by simp, rfl, fun j a b ha => by simp at ha⟩
  | r :: l, xs, h => by
    unfold aResults at h
    split at h
    · rename_i x ys hx hys
      injection h with h; subst h
      obtain ⟨vs, h1, h2⟩ := results_sound hm hE l ys hys
      have hone : ∃ v, (resVal a.tmps r : Sem Value).run P w = .ok v w ∧ Rep w S m st.nx x v := by
        cases r with
        | tmp t => exact ⟨_, rfl, (hE t x hx).2⟩
        | cell p t =>
          obtain ⟨y, hy, hl⟩ := bind_some' hx
          obtain ⟨u, hu, hr⟩ := aLoad_sound hm (hE p y hy).2 hl
          have hptr : ∃ A, a.tmps.getD p undef = .pointer (some A) := by
            have hr2 := (hE p y hy).2
            obtain ⟨q, hq⟩ : ∃ q, a.tmps.getD p undef = q := ⟨_, rfl⟩
            rw [hq] at hr2 ⊢
            cases hr2 <;> first
              | exact ⟨_, rfl⟩
              | cases hl
          obtain ⟨A, hA⟩ := hptr
          refine ⟨u, ?_, hr⟩
          show ((do loadVar t (← asAddr (a.tmps.getD p undef))) : Sem Value).run P w = _
          rw [hA] at hu ⊢
          exact hu
      obtain ⟨v, hv1, hv2⟩ := hone
      refine ⟨v :: vs, ?_, by simp [h2.1], fun j a b ha hb => ?_⟩
      · rw [List.mapM_cons, Sem.run_bind, hv1]
        simp only [Result.andThen_ok]
        rw [Sem.run_bind, h1]; rfl
      · cases j with
        | zero => simp at ha hb; subst ha; subst hb; exact hv2
        | succ j => exact h2.2 j a b (by simpa using ha) (by simpa using hb)
    · cases h
theorem sim_init (F : Fr) (args : List AV) (hp : List (Nat × Blk)) (nx : Nat) (vs : Array Value) (w : World) (S : Nat → Prop) (m : Nat → Nat × Nat) (hm : Mem F hp nx w S m) (hr : RepA w S m nx args vs) (hn : args.length ≤ F.n) :
    Sim F ⟨initEnv 0 args, hp, nx⟩ { tmps := vs ++ Array.replicate (F.n - vs.size) undef, defers := [] } w := by
  refine ⟨rfl, by simp [← hr.1]; omega, S, m, hm, fun t x h => ?_⟩
  have h' : get t (initEnv 0 args) = some x := h
  rw [get_init, if_pos (Nat.zero_le _), Nat.sub_zero] at h'
  have hlt : t < args.length := (List.getElem?_eq_some_iff.1 h').1
  have hlt2 : t < vs.size := by rw [← hr.1]; exact hlt
  refine ⟨by omega, hr.2 t x _ h' ?_⟩
  rw [Array.getD_eq_getD_getElem?, Array.getElem?_append_left hlt2, Array.getElem?_eq_getElem hlt2]
  rfl
theorem Mem.lower {hp hp' : List (Nat × Blk)} {nx nx' : Nat} {w : World} {S : Nat → Prop} {m : Nat → Nat × Nat} (h : Mem F hp nx w S m) (hn : F.ni ≤ nx') (hs : ∀ b k, get b hp' = some k → get b hp = some k ∧ b < nx' ∧ k.cs.all (AV.keyed nx' 4) = true) : Mem F hp' nx' w S m :=
  ⟨h.os, h.tape, h.output, h.size, h.keep, h.old, h.agree, hn, h.lt, fun b k hg => ⟨(hs b k hg).2.1, (h.live b k (hs b k hg).1).2⟩, fun b k hg => by
    obtain ⟨cur, h1, h2, h3⟩ := h.cells b k (hs b k hg).1
    exact ⟨cur, h1, fun j x hx => by obtain ⟨v, h4, h5⟩ := h2 j x hx; exact ⟨v, h4, h5.lower 4 (List.all_eq_true.1 (hs b k hg).2.2 x (List.mem_of_getElem? hx))⟩, h3⟩, fun b b' k k' hg hg' => h.inj b b' k k' (hs b k hg).1 (hs b' k' hg').1⟩
theorem ret_sound {fn : Func} {rs : List ResultVar} (hrs : fn.results.toList = rs) {nx : Nat} {r : AV} {hp' : List (Nat × Blk)} {nx' : Nat} {e : Exit} {st : St} {a : Act} {w : World} (hF : F.ni = nx) (h : aRet P rs nx r hp' nx' e st) (hs : Sim F st a w) :
    bodyPost P fn (fun e w' => ∃ v S' m', e = .returned v ∧ Mem F hp' nx' w' S' m' ∧ Rep w' S' m' nx' r v) e a w := by
  have key : (∃ xs, aResults P st rs = some xs ∧ r = oneOf xs) → nx ≤ nx' → r.keyed nx' 4 = true → (∀ b k, get b hp' = some k → get b st.hp = some k ∧ b < nx' ∧ k.cs.all (AV.keyed nx' 4) = true) →
      a.defers = [] ∧ ∃ v, (results fn a.tmps).run P w = .ok v w ∧ ∃ v' S' m', Ending.returned v = .returned v' ∧ Mem F hp' nx' w S' m' ∧ Rep w S' m' nx' r v' := by
    intro h1 h2 h3 h4
    obtain ⟨hd, htn, S, m, hm, hE⟩ := hs
    refine ⟨hd, ?_⟩
    have hres : ∀ xs, aResults P st rs = some xs → ∃ vs : List Value, (results fn a.tmps).run P w = .ok (if h : vs.toArray.size = 1 then vs.toArray[0] else .tuple vs.toArray) w ∧ RepA w S m st.nx xs vs.toArray := fun xs hx => by
      obtain ⟨vs, h5, h6⟩ := results_sound hm hE rs xs hx
      refine ⟨vs, ?_, h6⟩
      rw [results_eq, ← Array.toArray_toList (xs := fn.results), hrs, List.mapM_toArray, Sem.run_bind, ← bind_pure_comp, Sem.run_bind, h5]
      rfl
    have fin : ∀ v, (results fn a.tmps).run P w = .ok v w → Rep w S m st.nx r v → ∃ v, (results fn a.tmps).run P w = .ok v w ∧ ∃ v' S' m', Ending.returned v = .returned v' ∧ Mem F hp' nx' w S' m' ∧ Rep w S' m' nx' r v' := fun v hv hr =>
      ⟨v, hv, v, S, m, rfl, hm.lower (by omega) h4, hr.lower 4 h3⟩
    obtain ⟨xs, hx, rfl⟩ := h1
    obtain ⟨vs, h5, h6⟩ := hres _ hx
    by_cases h1l : xs.length = 1
    · obtain ⟨x, rfl⟩ : ∃ x, xs = [x] := by
        cases xs with
        | nil => simp at h1l
        | cons x l =>
          cases l with
          | nil => exact ⟨x, rfl⟩
          | cons _ _ => simp at h1l
      have hl : vs.length = 1 := by simpa using h6.1.symm
      obtain ⟨v, rfl⟩ : ∃ v, vs = [v] := by
        cases vs with
        | nil => simp at hl
        | cons v l =>
          cases l with
          | nil => exact ⟨v, rfl⟩
          | cons _ _ => simp at hl
      exact fin v h5 (h6.2 0 _ v rfl rfl)
    · have ho : oneOf xs = .tup xs := by
        cases xs with
        | nil => rfl
        | cons x l =>
          cases l with
          | nil => simp at h1l
          | cons _ _ => rfl
      rw [ho] at h3 fin ⊢
      have hl : vs.length ≠ 1 := by
        have e2 := h6.1
        simp at e2; omega
      rw [dif_neg (by simpa using hl)] at h5
      exact fin _ h5 (.tup _ h6.1 h6.2)
  cases e <;> first
    | exact h.elim
    | exact key h.1 h.2.1 h.2.2.1 (subH_spec h.2.2.2)
end
end Go.Proofs.Ytgggekjhfdkgkaa.Ab
