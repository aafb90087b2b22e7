/- Abstract runs by steps: operations that are computed, loops as plain functions, places where ways meet. -/
import Derived.Test.YtgggekjhfdkgkaaAbP
namespace Go.Proofs.Ytgggekjhfdkgkaa.Ab
open Go Go.RowKit Go.Shelf

/-- One operation that calls nothing, computed. -/
def rPut (n : Nat) (st : St) (d : Option Tmp) (x : AV) : Option St := match d with
  | some d => if d < n then some (st.put (some d) x) else none
  | none => some st
def rOp (P : Program) (n : Nat) (o : Oper) (st : St) : Option St :=
  match aPure P (aEv st.E) st.hp o.op with
  | some x => rPut n st o.dst x
  | none => match aHeap P (aEv st.E) st.hp st.nx o.op with
    | some (x, hp, nx) => rPut n ⟨st.env, hp, nx⟩ o.dst x
    | none => none
/-- Operations without a guard, computed. -/
def rOps (P : Program) (n : Nat) : List Oper → St → Option St
  | [], st => some st
  | o :: l, st => match o.guard with
    | some _ => none
    | none => match rOp P n o st with
      | some st' => rOps P n l st'
      | none => none
/-- Operations behind one guard that holds, computed. -/
def rOpsG (P : Program) (n : Nat) (ops : Array Oper) (j : Nat) (want : Bool) : List Oper → St → Option St
  | [], st => some st
  | o :: l, st => match o.guard with
    | some (i, b) => if i = j ∧ b = want ∧ (ops[j]?).bind (·.dst) ≠ o.dst then (match rOp P n o st with
      | some st' => rOpsG P n ops j want l st'
      | none => none) else none
    | none => none
/-- Operations behind a guard that does not hold. -/
def rSkip (n : Nat) (ops : Array Oper) (j : Nat) (want : Bool) : List Oper → St → Option St
  | [], st => some st
  | o :: l, st => match o.guard with
    | some (i, b) => if i = j ∧ b = want ∧ (ops[j]?).bind (·.dst) ≠ o.dst then (match rPut n st o.dst (.s undef) with
      | some st' => rSkip n ops j want l st'
      | none => none) else none
    | none => none
/-- The same for operations of the head of a region that draws its order. -/
def rOpH (P : Program) (n : Nat) (o : Oper) (st : St) : Option St :=
  if heapy o.op = true then none else match aPure P (aEv st.E) st.hp o.op with
  | some x => rPut n st o.dst x
  | none => none
def rOpsH (P : Program) (n : Nat) : List Oper → St → Option St
  | [], st => some st
  | o :: l, st => match o.guard with
    | some _ => none
    | none => match rOpH P n o st with
      | some st' => rOpsH P n l st'
      | none => none
/-- One of the three conditions on a region that draws its order. -/
def drawAny (l : List Oper) : Bool := drawOk l.toArray (headN l) || drawOkL l.toArray (headN l) || drawOkE l.toArray (headN l) (allocN (l.drop (headN l)))
section
variable {P : Program} {n lo : Nat} {ops : Array Oper} {K : St → Prop} {st : St} {Q : Exit → St → Prop}
theorem rPut_some {st st' : St} {d : Option Tmp} {x : AV} (h : rPut n st d x = some st') : dstOk n d ∧ st' = st.put d x := by
  cases d with
  | none => injection h with h; exact ⟨trivial, h.symm⟩
  | some d =>
    have h' : (if d < n then some (st.put (some d) x) else none) = some st' := h
    split at h'
    · rename_i hd; injection h' with h'; exact ⟨hd, h'.symm⟩
    · cases h'
theorem rOp_some {o : Oper} {st st' : St} {K KL : St → Prop} (h : rOp P n o st = some st') (hk : K st') : aOp P n o K KL st := by
  unfold rOp at h
  unfold aOp
  split at h
  · rename_i x hx
    rw [hx]
    obtain ⟨h1, rfl⟩ := rPut_some h
    exact ⟨h1, hk⟩
  · rename_i hx
    rw [hx]
    split at h
    · rename_i x hp nx hy
      obtain ⟨h1, rfl⟩ := rPut_some h
      simp only [hy]
      exact ⟨h1, hk⟩
    · cases h
theorem ops_run (k : Nat) {l : List Oper} (st' : St) (h : rOps P n (l.take k) st = some st') (hk : aOps P n ops (l.drop k) K st') : aOps P n ops l K st := by
  induction k generalizing l st with
  | zero => rw [List.take_zero] at h; injection h with h; subst h; exact hk
  | succ k ih =>
    cases l with
    | nil => injection h with h; subst h; exact hk
    | cons o l =>
      rw [List.take_succ_cons] at h
      unfold rOps at h
      split at h
      · cases h
      · rename_i hg
        split at h
        · rename_i st1 h1
          unfold aOps
          rw [hg]
          exact rOp_some h1 (ih h hk)
        · cases h
theorem ops_runG (k : Nat) (j : Nat) (want : Bool) {l : List Oper} (st' : St) {b : Bool} (hy : ((ops[j]?).bind (·.dst)).bind st.E = some (.s (.bool b))) (hb : b = want) (h : rOpsG P n ops j want (l.take k) st = some st') (hk : aOps P n ops (l.drop k) K st') : aOps P n ops l K st := by
  induction k generalizing l st with
  | zero => rw [List.take_zero] at h; injection h with h; subst h; exact hk
  | succ k ih =>
    cases l with
    | nil => injection h with h; subst h; exact hk
    | cons o l =>
      rw [List.take_succ_cons] at h
      unfold rOpsG at h
      split at h
      · rename_i i b' hg
        split at h
        · rename_i hh
          obtain ⟨rfl, rfl, hne⟩ := hh
          split at h
          · rename_i st1 h1
            unfold aOps
            rw [hg]
            simp only [hy, yv, hb, if_true]
            refine rOp_some h1 (ih ?_ h hk)
            obtain ⟨t, ht, hv⟩ := bind_some' hy
            rw [ht, Option.bind_some]
            have hne' : o.dst ≠ some t := fun e => hne (by rw [ht, e])
            unfold rOp at h1
            split at h1
            · obtain ⟨_, rfl⟩ := rPut_some h1
              rw [put_E]; unfold updE; rw [if_neg hne']; exact hv
            · split at h1
              · obtain ⟨_, rfl⟩ := rPut_some h1
                rw [put_E]; unfold updE; rw [if_neg hne']; exact hv
              · cases h1
          · cases h
        · cases h
      · cases h
theorem ops_skip (k : Nat) (j : Nat) (want : Bool) {l : List Oper} (st' : St) {b : Bool} (hy : ((ops[j]?).bind (·.dst)).bind st.E = some (.s (.bool b))) (hb : b = !want) (h : rSkip n ops j want (l.take k) st = some st') (hk : aOps P n ops (l.drop k) K st') : aOps P n ops l K st := by
  induction k generalizing l st with
  | zero => rw [List.take_zero] at h; injection h with h; subst h; exact hk
  | succ k ih =>
    cases l with
    | nil => injection h with h; subst h; exact hk
    | cons o l =>
      rw [List.take_succ_cons] at h
      unfold rSkip at h
      split at h
      · rename_i i b' hg
        split at h
        · rename_i hh
          obtain ⟨rfl, rfl, hne⟩ := hh
          split at h
          · rename_i st1 h1
            obtain ⟨hd, rfl⟩ := rPut_some h1
            unfold aOps
            rw [hg]
            simp only [hy, yv]
            rw [if_neg (by rw [hb]; cases b' <;> simp)]
            refine ⟨hd, ih ?_ h hk⟩
            obtain ⟨t, ht, hv⟩ := bind_some' hy
            rw [ht, Option.bind_some]
            have hne' : o.dst ≠ some t := fun e => hne (by rw [ht, e])
            rw [put_E]; unfold updE; rw [if_neg hne']; exact hv
          · cases h
        · cases h
      · cases h
theorem ops_skipU (k : Nat) (j : Nat) (want : Bool) {l : List Oper} (st' : St) (hy : ((ops[j]?).bind (·.dst)).bind st.E = some (.s undef)) (h : rSkip n ops j want (l.take k) st = some st') (hk : aOps P n ops (l.drop k) K st') : aOps P n ops l K st := by
  induction k generalizing l st with
  | zero => rw [List.take_zero] at h; injection h with h; subst h; exact hk
  | succ k ih =>
    cases l with
    | nil => injection h with h; subst h; exact hk
    | cons o l =>
      rw [List.take_succ_cons] at h
      unfold rSkip at h
      split at h
      · rename_i i b' hg
        split at h
        · rename_i hh
          obtain ⟨rfl, rfl, hne⟩ := hh
          split at h
          · rename_i st1 h1
            obtain ⟨hd, rfl⟩ := rPut_some h1
            unfold aOps
            rw [hg]
            simp only [hy, yv, undef]
            rw [if_neg (by simp)]
            refine ⟨hd, ih ?_ h hk⟩
            obtain ⟨t, ht, hv⟩ := bind_some' hy
            rw [ht, Option.bind_some]
            have hne' : o.dst ≠ some t := fun e => hne (by rw [ht, e])
            rw [put_E]; unfold updE; rw [if_neg hne']; exact hv
          · cases h
        · cases h
      · cases h
/-- One operation without a guard, or behind a guard that holds. -/
theorem ops_one {o : Oper} {l : List Oper} (hg : o.guard = none) (h : aOp P n o (aOps P n ops l K) (aOps P n ops l K) st) : aOps P n ops (o :: l) K st := by
  unfold aOps; rw [hg]; exact h
theorem ops_oneG {o : Oper} {l : List Oper} {j : Nat} {want b : Bool} (hg : o.guard = some (j, want)) (hy : ((ops[j]?).bind (·.dst)).bind st.E = some (.s (.bool b))) (hb : b = want) (h : aOp P n o (aOps P n ops l K) (aOps P n ops l K) st) : aOps P n ops (o :: l) K st := by
  unfold aOps; rw [hg]; simp only [hy, yv, hb, if_true]; exact h
theorem op_pure {o : Oper} {KL : St → Prop} (x : AV) (h : aPure P (aEv st.E) st.hp o.op = some x) (hd : dstOk n o.dst) (hk : K (st.put o.dst x)) : aOp P n o K KL st := by
  unfold aOp; rw [h]; exact ⟨hd, hk⟩
theorem op_heap {o : Oper} {KL : St → Prop} (x : AV) (hp : List (Nat × Blk)) (nx : Nat) (h0 : aPure P (aEv st.E) st.hp o.op = none) (h : aHeap P (aEv st.E) st.hp st.nx o.op = some (x, hp, nx)) (hd : dstOk n o.dst) (hk : K ((St.mk st.env hp nx).put o.dst x)) : aOp P n o K KL st := by
  unfold aOp; rw [h0]; simp only [h]; exact ⟨hd, hk⟩
theorem op_cmp {o : Oper} {KL : St → Prop} {op : BinOp} {t ty : TypeId} {p q : Operand} {x y : AV} (b : Bool) (ho : o.op = .binOp op t p q ty) (h0 : aPure P (aEv st.E) st.hp o.op = none) (hx : aEv st.E p = some x) (hy : aEv st.E q = some y) (he : EqOk P op t x y b) (hd : dstOk n o.dst) (hk : KL (st.put o.dst (.s (.bool b)))) : aOp P n o K KL st := by
  unfold aOp; rw [h0, ho]; simp only [aHeap, hx, hy]; exact ⟨b, he, hd, hk⟩
theorem op_call {o : Oper} {KL : St → Prop} {c : Call} {f : Operand} {g : FuncId} {caps args args' : List AV} {hp1 hp1' : List (Nat × Blk)} {r : AV} {nx' : Nat} (ho : o.op = .call c) (hc : c.callee = .value f) (h0 : aPure P (aEv st.E) st.hp o.op = none) (hf : aEv st.E f = some (.fn g caps)) (ha : aArgs (aEv st.E) c.args.toList = some args)
    (hs : SubL (args ++ caps) args') (h : Spec P g args' hp1 st.nx r hp1' nx') (h1 : ∀ b k, get b hp1 = some k → get b st.hp = some k) (h2 : ∀ b k, get b hp1' = some k → b < st.nx → (get b hp1).isSome = true) (hd : dstOk n o.dst) (hk : KL ((St.mk st.env (hp1' ++ frame hp1 st.hp) nx').put o.dst r)) : aOp P n o K KL st := by
  unfold aOp; rw [h0, ho]
  have : aHeap P (aEv st.E) st.hp st.nx (.call c) = none := by unfold aHeap; simp only [hc]
  simp only [this, hc, hf, ha]
  exact ⟨args', hp1, r, hp1', nx', hs, h, h1, h2, hd, hk⟩
/-- Whom an operation calls, with what. -/
def calleeOf (st : St) (o : Oper) : Option (FuncId × List AV) := match o.op with
  | .call c => (match c.callee with
    | .value f => (match aEv st.E f, aArgs (aEv st.E) c.args.toList with
      | some (.fn g caps), some args => some (g, args ++ caps)
      | _, _ => none)
    | _ => none)
  | _ => none
theorem calleeOf_some {st : St} {o : Oper} {g : FuncId} {xs : List AV} (h : calleeOf st o = some (g, xs)) : ∃ c f caps args, o.op = .call c ∧ c.callee = .value f ∧ aEv st.E f = some (.fn g caps) ∧ aArgs (aEv st.E) c.args.toList = some args ∧ xs = args ++ caps := by
  unfold calleeOf at h
  split at h
  · rename_i c ho
    split at h
    · rename_i f hf
      split at h
      · rename_i g' caps args h1 h2
        injection h with h
        simp only [Prod.mk.injEq] at h
        obtain ⟨rfl, rfl⟩ := h
        exact ⟨c, f, caps, args, ho, hf, h1, h2, rfl⟩
      · cases h
    · cases h
  · cases h
theorem pure_call {ρ : Operand → Option AV} {hp : List (Nat × Blk)} {c : Call} {f : Operand} (hc : c.callee = .value f) : aPure P ρ hp (.call c) = none := by
  unfold aPure aVal; simp only [hc]
theorem heap_call {ρ : Operand → Option AV} {hp : List (Nat × Blk)} {nx : Nat} {c : Call} {f : Operand} (hc : c.callee = .value f) : aHeap P ρ hp nx (.call c) = none := by
  unfold aHeap; simp only [hc]
/-- What lies under the keys of a list of blocks. -/
def look (hp : List (Nat × Blk)) (l : List (Nat × Blk)) : List (Option Blk) := l.map fun p => get p.1 hp
theorem look_spec {hp : List (Nat × Blk)} : ∀ {l : List (Nat × Blk)}, look hp l = l.map (fun p => some p.2) → ∀ b k, get b l = some k → get b hp = some k
  | [], _, b, k, h => by cases h
  | (c, q) :: l, hs, b, k, h => by
    have h1 : get c hp = some q := (List.cons.inj hs).1
    have h2 : look hp l = l.map (fun p => some p.2) := (List.cons.inj hs).2
    have h' : (if b = c then some q else get b l) = some k := h
    split at h'
    · rename_i e; subst e; injection h' with h'; subst h'; exact h1
    · exact look_spec h2 b k h'
/-- A contract under its own keys 0, 1, ..: with what is needed to put it under others. -/
structure SpecK (P : Program) (pk : List Nat) (g : FuncId) (args : List AV) (hp : List (Nat × Blk)) (n1 : Nat) (r : AV) (hp' : List (Nat × Blk)) (n' : Nat) : Prop where
  spec : Spec P g args hp n1 r hp' n'
  kargs : args.all (AV.keyed n1 4) = true
  khp : hpOk n1 pk hp
  kr : r.keyed n' 4 = true
  khp' : hpOk n' pk hp'
  same : (hp'.all fun p => decide (n1 ≤ p.1) || (get p.1 hp).isSome) = true
def dstB (n : Nat) : Option Tmp → Bool
  | some d => decide (d < n)
  | none => true
theorem dstB_ok {n : Nat} {d : Option Tmp} (h : dstB n d = true) : dstOk n d := by
  cases d with
  | none => trivial
  | some d => exact (of_decide_eq_true h : d < n)
def noDup : List Nat → Bool
  | [] => true
  | x :: l => !l.contains x && noDup l
theorem noDup_ok : ∀ {l : List Nat}, noDup l = true → l.Nodup
  | [], _ => List.nodup_nil
  | x :: l, h => by
    unfold noDup at h
    rw [Bool.and_eq_true] at h
    exact List.nodup_cons.2 ⟨by simpa using h.1, noDup_ok h.2⟩
def keysOk (ks : List Nat) (n1 nx : Nat) : Bool := (ks.length == n1) && ks.all (fun k => decide (k < nx)) && noDup ks
theorem spec_at {ks pk : List Nat} {g : FuncId} {args : List AV} {hp hp' : List (Nat × Blk)} {n1 nx n' : Nat} {r : AV} (h : SpecK P pk g args hp n1 r hp' n') (hks : keysOk ks n1 nx = true) :
    Spec P g (args.map (AV.ren (sg ks nx) 4)) (renH (sg ks nx) pk hp) nx (r.ren (sg ks nx) 4) (renH (sg ks nx) pk hp') (nx + (n' - n1)) ∧ ∀ b k, get b (renH (sg ks nx) pk hp') = some k → b < nx → (get b (renH (sg ks nx) pk hp)).isSome = true := by
  unfold keysOk at hks
  simp only [Bool.and_eq_true, beq_iff_eq] at hks
  obtain ⟨⟨rfl, hks⟩, hn⟩ := hks
  have hks' : ∀ k ∈ ks, k < nx := fun k hk => of_decide_eq_true (List.all_eq_true.1 hks k hk)
  have hn := noDup_ok hn
  have hinj : ∀ c c', sg ks nx c = sg ks nx c' → c = c' := fun c c' => sg_inj hks' hn
  refine ⟨spec_ren ks pk nx h.spec hks' hn h.kargs h.khp h.kr h.khp', fun b k hg hlt => ?_⟩
  obtain ⟨c', hc', rfl⟩ := get_renH_some hg
  rw [get_renH (fun c _ e => hinj c c' e)] at hg ⊢
  obtain ⟨p, hp, rfl⟩ := List.mem_map.1 hc'
  have := List.all_eq_true.1 h.same p hp
  simp only [Bool.or_eq_true, decide_eq_true_eq] at this
  rcases this with h3 | h3
  · rw [sg_ge h3] at hlt; omega
  · rw [Option.isSome_map]; exact h3
/-- A call, by a contract under its own keys; arguments that may stand for more. -/
theorem op_callS {o : Oper} {KL : St → Prop} {g : FuncId} {args : List AV} {hp1 hp1' : List (Nat × Blk)} {r : AV} {n1 n' : Nat} {pk : List Nat} (ks : List Nat) (h : SpecK P pk g args hp1 n1 r hp1' n') (xs : List AV) (hcall : calleeOf st o = some (g, xs)) (hs : SubL xs (args.map (AV.ren (sg ks st.nx) 4)))
    (hks : keysOk ks n1 st.nx = true) (hl : look st.hp (renH (sg ks st.nx) pk hp1) = (renH (sg ks st.nx) pk hp1).map (fun p => some p.2)) (hd : dstB n o.dst = true)
    (hk : KL ((St.mk st.env (renH (sg ks st.nx) pk hp1' ++ frame (renH (sg ks st.nx) pk hp1) st.hp) (st.nx + (n' - n1))).put o.dst (r.ren (sg ks st.nx) 4))) : aOp P n o K KL st := by
  obtain ⟨c, f, caps, args0, ho, hc, h1, h2, rfl⟩ := calleeOf_some hcall
  obtain ⟨h3, h4⟩ := spec_at h hks
  exact op_call ho hc (by rw [ho]; exact pure_call hc) h1 h2 hs h3 (look_spec hl) h4 (dstB_ok hd) hk
theorem op_callE {o : Oper} {KL : St → Prop} {g : FuncId} {args : List AV} {hp1 hp1' : List (Nat × Blk)} {r : AV} {n1 n' : Nat} {pk : List Nat} (ks : List Nat) (h : SpecK P pk g args hp1 n1 r hp1' n') (hcall : calleeOf st o = some (g, args.map (AV.ren (sg ks st.nx) 4)))
    (hks : keysOk ks n1 st.nx = true) (hl : look st.hp (renH (sg ks st.nx) pk hp1) = (renH (sg ks st.nx) pk hp1).map (fun p => some p.2)) (hd : dstB n o.dst = true)
    (hk : KL ((St.mk st.env (renH (sg ks st.nx) pk hp1' ++ frame (renH (sg ks st.nx) pk hp1) st.hp) (st.nx + (n' - n1))).put o.dst (r.ren (sg ks st.nx) 4))) : aOp P n o K KL st :=
  op_callS ks h _ hcall (SubL.refl _) hks hl hd hk
theorem ren_none (σ : Nat → Nat) : ∀ (d : Nat) (x : AV), AV.keyed 0 d x = true → x.ren σ d = x := by
  intro d
  induction d with
  | zero => intro x hx; cases x <;> first | rfl | (simp [AV.keyed] at hx; done)
  | succ d ih =>
    intro x hx
    have part : ∀ (cs : List AV), cs.all (AV.keyed 0 d) = true → cs.map (AV.ren σ d) = cs := fun cs hc => by
      rw [List.map_congr_left (g := id) (fun a ha => ih a (List.all_eq_true.1 hc a ha)), List.map_id]
    cases x with
    | agg cs => show AV.agg _ = _; rw [part cs (by simpa [AV.keyed] using hx)]
    | tup cs => show AV.tup _ = _; rw [part cs (by simpa [AV.keyed] using hx)]
    | fn f cs => show AV.fn f _ = _; rw [part cs (by simpa [AV.keyed] using hx)]
    | own b k => simp [AV.keyed] at hx
    | ptr b k => simp [AV.keyed] at hx
    | _ => rfl
theorem rens_none (σ : Nat → Nat) (l : List AV) (h : l.all (AV.keyed 0 4) = true) : l.map (AV.ren σ 4) = l := by
  rw [List.map_congr_left (g := id) (fun a ha => ren_none σ 4 a (List.all_eq_true.1 h a ha)), List.map_id]
/-- A call of a function that is given no blocks and hands none back. -/
theorem op_callPS {o : Oper} {KL : St → Prop} {g : FuncId} {args : List AV} {r : AV} (h : SpecK P [] g args [] 0 r [] 0) (xs : List AV) (hcall : calleeOf st o = some (g, xs)) (hs : SubL xs args) (hd : dstB n o.dst = true) (hk : KL (st.put o.dst r)) : aOp P n o K KL st := by
  refine op_callS [] h xs hcall (by rw [rens_none _ _ h.kargs]; exact hs) rfl rfl hd ?_
  rw [ren_none _ 4 r h.kr]
  show KL ((St.mk st.env ([] ++ frame [] st.hp) st.nx).put o.dst r)
  rw [List.nil_append, frame_nil]; exact hk
theorem op_callP {o : Oper} {KL : St → Prop} {g : FuncId} {args : List AV} {r : AV} (h : SpecK P [] g args [] 0 r [] 0) (hcall : calleeOf st o = some (g, args)) (hd : dstB n o.dst = true) (hk : KL (st.put o.dst r)) : aOp P n o K KL st :=
  op_callPS h args hcall (SubL.refl _) hd hk
/-- In a region that draws its order: the head's operations. -/
theorem mix_run (k : Nat) {l : List Oper} (st' : St) (h : rOpsH P n (l.take k) st = some st') (hk : aMix P n ops (l.drop k) K st') : aMix P n ops l K st := by
  induction k generalizing l st with
  | zero => rw [List.take_zero] at h; injection h with h; subst h; exact hk
  | succ k ih =>
    cases l with
    | nil => injection h with h; subst h; exact hk
    | cons o l =>
      rw [List.take_succ_cons] at h
      unfold rOpsH at h
      split at h
      · cases h
      · rename_i hg
        split at h
        · rename_i st1 h1
          unfold aMix
          unfold rOpH at h1
          split at h1
          · cases h1
          · rename_i hh
            rw [if_neg hh, hg]
            split at h1
            · rename_i x hx
              obtain ⟨hd, rfl⟩ := rPut_some h1
              unfold aOpH
              simp only [hx]
              exact ⟨hd, ih h hk⟩
            · cases h1
        · cases h
theorem mix_one {o : Oper} {l : List Oper} (hh : heapy o.op = false) (hg : o.guard = none) (h : aOpH P n o (aMix P n ops l K) (aMix P n ops l K) st) : aMix P n ops (o :: l) K st := by
  unfold aMix; rw [if_neg (by rw [hh]; decide), hg]; exact h
theorem mix_oneG {o : Oper} {l : List Oper} {j : Nat} {want b : Bool} (hh : heapy o.op = false) (hg : o.guard = some (j, want)) (hy : ((ops[j]?).bind (·.dst)).bind st.E = some (.s (.bool b))) (hb : b = want) (h : aOpH P n o (aMix P n ops l K) (aMix P n ops l K) st) : aMix P n ops (o :: l) K st := by
  unfold aMix; rw [if_neg (by rw [hh]; decide), hg]; simp only [hy, yv, hb, if_true]; exact h
theorem mix_skip {o : Oper} {l : List Oper} {j : Nat} {want b : Bool} (hh : heapy o.op = false) (hg : o.guard = some (j, want)) (hy : ((ops[j]?).bind (·.dst)).bind st.E = some (.s (.bool b))) (hb : b = !want) (hd : dstOk n o.dst) (h : aMix P n ops l K (st.put o.dst (.s undef))) : aMix P n ops (o :: l) K st := by
  unfold aMix; rw [if_neg (by rw [hh]; decide), hg]; simp only [hy, yv]
  rw [if_neg (by rw [hb]; cases want <;> simp)]
  exact ⟨hd, h⟩
theorem mix_ops {o : Oper} {l : List Oper} (hh : heapy o.op = true) (h : aOps P n ops (o :: l) K st) : aMix P n ops (o :: l) K st := by
  unfold aMix; rw [if_pos hh]; exact h
theorem opH_pure {o : Oper} {KL : St → Prop} (x : AV) (h : aPure P (aEv st.E) st.hp o.op = some x) (hd : dstOk n o.dst) (hk : K (st.put o.dst x)) : aOpH P n o K KL st := by
  unfold aOpH; rw [h]; exact ⟨hd, hk⟩
theorem opH_cmp {o : Oper} {KL : St → Prop} {op : BinOp} {t ty : TypeId} {p q : Operand} {x y : AV} (b : Bool) (ho : o.op = .binOp op t p q ty) (h0 : aPure P (aEv st.E) st.hp o.op = none) (hx : aEv st.E p = some x) (hy : aEv st.E q = some y) (he : EqOk P op t x y b) (hd : dstOk n o.dst) (hk : KL (st.put o.dst (.s (.bool b)))) : aOpH P n o K KL st := by
  unfold aOpH; rw [h0, ho]; simp only [hx, hy]; exact ⟨b, he, hd, hk⟩
/-- A call that leaves all blocks as they are. -/
theorem opH_callS {o : Oper} {KL : St → Prop} {g : FuncId} {args : List AV} {hp1 : List (Nat × Blk)} {r : AV} {n1 : Nat} {pk : List Nat} (ks : List Nat) (h : SpecK P pk g args hp1 n1 r hp1 n1) (xs : List AV) (hcall : calleeOf st o = some (g, xs)) (hs : SubL xs (args.map (AV.ren (sg ks st.nx) 4)))
    (hks : keysOk ks n1 st.nx = true) (hl : look st.hp (renH (sg ks st.nx) pk hp1) = (renH (sg ks st.nx) pk hp1).map (fun p => some p.2)) (hd : dstB n o.dst = true) (hk : KL (st.put o.dst (r.ren (sg ks st.nx) 4))) : aOpH P n o K KL st := by
  obtain ⟨c, f, caps, args0, ho, hc, h1, h2, rfl⟩ := calleeOf_some hcall
  have h3 := (spec_at h hks).1
  rw [Nat.sub_self, Nat.add_zero] at h3
  unfold aOpH
  rw [ho]
  simp only [pure_call hc, hc, h1, h2]
  exact ⟨_, _, _, hs, h3, look_spec hl, dstB_ok hd, hk⟩
theorem opH_callE {o : Oper} {KL : St → Prop} {g : FuncId} {args : List AV} {hp1 : List (Nat × Blk)} {r : AV} {n1 : Nat} {pk : List Nat} (ks : List Nat) (h : SpecK P pk g args hp1 n1 r hp1 n1) (hcall : calleeOf st o = some (g, args.map (AV.ren (sg ks st.nx) 4)))
    (hks : keysOk ks n1 st.nx = true) (hl : look st.hp (renH (sg ks st.nx) pk hp1) = (renH (sg ks st.nx) pk hp1).map (fun p => some p.2)) (hd : dstB n o.dst = true) (hk : KL (st.put o.dst (r.ren (sg ks st.nx) 4))) : aOpH P n o K KL st :=
  opH_callS ks h _ hcall (SubL.refl _) hks hl hd hk
theorem opH_callPS {o : Oper} {KL : St → Prop} {g : FuncId} {args : List AV} {r : AV} (h : SpecK P [] g args [] 0 r [] 0) (xs : List AV) (hcall : calleeOf st o = some (g, xs)) (hs : SubL xs args) (hd : dstB n o.dst = true) (hk : KL (st.put o.dst r)) : aOpH P n o K KL st := by
  refine opH_callS [] h xs hcall (by rw [rens_none _ _ h.kargs]; exact hs) rfl rfl hd ?_
  rw [ren_none _ 4 r h.kr]; exact hk
theorem opH_callP {o : Oper} {KL : St → Prop} {g : FuncId} {args : List AV} {r : AV} (h : SpecK P [] g args [] 0 r [] 0) (hcall : calleeOf st o = some (g, args)) (hd : dstB n o.dst = true) (hk : KL (st.put o.dst r)) : aOpH P n o K KL st :=
  opH_callPS h args hcall (SubL.refl _) hd hk
/-- A run that need not be told: its end is named by the run itself. -/
theorem ops_runT (k : Nat) {l : List Oper} (h : (rOps P n (l.take k) st).isSome = true) (hk : aOps P n ops (l.drop k) K ((rOps P n (l.take k) st).getD st)) : aOps P n ops l K st := by
  obtain ⟨st', hs⟩ := Option.isSome_iff_exists.1 h
  exact ops_run k st' hs (by rw [hs] at hk; exact hk)
theorem ops_runGT (k : Nat) (j : Nat) (want : Bool) {l : List Oper} {b : Bool} (hy : ((ops[j]?).bind (·.dst)).bind st.E = some (.s (.bool b))) (hb : b = want) (h : (rOpsG P n ops j want (l.take k) st).isSome = true) (hk : aOps P n ops (l.drop k) K ((rOpsG P n ops j want (l.take k) st).getD st)) : aOps P n ops l K st := by
  obtain ⟨st', hs⟩ := Option.isSome_iff_exists.1 h
  exact ops_runG k j want st' hy hb hs (by rw [hs] at hk; exact hk)
theorem ops_skipT (k : Nat) (j : Nat) (want : Bool) {l : List Oper} {b : Bool} (hy : ((ops[j]?).bind (·.dst)).bind st.E = some (.s (.bool b))) (hb : b = !want) (h : (rSkip n ops j want (l.take k) st).isSome = true) (hk : aOps P n ops (l.drop k) K ((rSkip n ops j want (l.take k) st).getD st)) : aOps P n ops l K st := by
  obtain ⟨st', hs⟩ := Option.isSome_iff_exists.1 h
  exact ops_skip k j want st' hy hb hs (by rw [hs] at hk; exact hk)
theorem ops_skipUT (k : Nat) (j : Nat) (want : Bool) {l : List Oper} (hy : ((ops[j]?).bind (·.dst)).bind st.E = some (.s undef)) (h : (rSkip n ops j want (l.take k) st).isSome = true) (hk : aOps P n ops (l.drop k) K ((rSkip n ops j want (l.take k) st).getD st)) : aOps P n ops l K st := by
  obtain ⟨st', hs⟩ := Option.isSome_iff_exists.1 h
  exact ops_skipU k j want st' hy hs (by rw [hs] at hk; exact hk)
theorem mix_runT (k : Nat) {l : List Oper} (h : (rOpsH P n (l.take k) st).isSome = true) (hk : aMix P n ops (l.drop k) K ((rOpsH P n (l.take k) st).getD st)) : aMix P n ops l K st := by
  obtain ⟨st', hs⟩ := Option.isSome_iff_exists.1 h
  exact mix_run k st' hs (by rw [hs] at hk; exact hk)
theorem ops_nil {l : List Oper} (hl : l = []) (h : K st) : aOps P n ops l K st := by subst hl; exact h
theorem mix_nil {l : List Oper} (hl : l = []) (h : K st) : aMix P n ops l K st := by subst hl; exact h
theorem ops_at {l : List Oper} (o : Oper) (l' : List Oper) (hl : l = o :: l') (h : aOps P n ops (o :: l') K st) : aOps P n ops l K st := by subst hl; exact h
theorem mix_at {l : List Oper} (o : Oper) (l' : List Oper) (hl : l = o :: l') (h : aMix P n ops (o :: l') K st) : aMix P n ops l K st := by subst hl; exact h
/-- The slots of a state that is given. -/
def trimTo (st' : St) : Option St → Option St
  | some s => some ⟨keepE (st'.env.map Prod.fst) s.env, s.hp, s.nx⟩
  | none => none
theorem trim_some {st' : St} {o : Option St} (h : trimTo st' o = some st') (hl : lo ≤ st'.nx) : ∃ s, o = some s ∧ St.to lo s st' := by
  cases o with
  | none => cases h
  | some s =>
    injection h with h
    refine ⟨s, rfl, ?_⟩
    have := to_keep (lo := lo) (st := s) (st'.env.map Prod.fst) (by rw [← h] at hl; exact hl)
    rw [h] at this; exact this
/-- A region that calls nothing, and what comes behind it. -/
theorem reg_seq {id : Nat} {l : List Oper} {y : Code} (st' : St) (h : trimTo st' (rOps P n l st) = some st') (hl : lo ≤ st'.nx) (hk : awp P n lo y Q st') : awp P n lo (.seq (.region id l.toArray false) y) Q st := by
  obtain ⟨s, hs, ht⟩ := trim_some h hl
  exact awp_seq (fun K hK => awp_region (ops_run l.length s (by rw [List.take_length]; exact hs) (by rw [List.drop_length]; exact hK _ _ ht hk)))
theorem ops_fin {A : St → Prop} {l : List Oper} (hK : ∀ st st', St.to lo st st' → A st' → K st) (st' : St) (h : trimTo st' (rOps P n l st) = some st') (hl : lo ≤ st'.nx) (hk : A st') : aOps P n ops l K st := by
  obtain ⟨s, hs, ht⟩ := trim_some h hl
  exact ops_run l.length s (by rw [List.take_length]; exact hs) (by rw [List.drop_length]; exact hK _ _ ht hk)
/-- What an operation of a list is. -/
def atOp (L : List Oper) (j : Nat) : Option (Op × Option Tmp × Option (Nat × Bool)) := match L[j]? with
  | some o => some (o.op, o.dst, o.guard)
  | none => none
theorem atOp_some {L : List Oper} {j : Nat} {op : Op} {d : Option Tmp} {g : Option (Nat × Bool)} (h : atOp L j = some (op, d, g)) : ∃ o, L.drop j = o :: L.drop (j + 1) ∧ o.op = op ∧ o.dst = d ∧ o.guard = g := by
  unfold atOp at h
  split at h
  · rename_i o ho
    injection h with h
    simp only [Prod.mk.injEq] at h
    obtain ⟨h1, h2⟩ := List.getElem?_eq_some_iff.1 ho
    exact ⟨o, by rw [List.drop_eq_getElem_cons h1, h2], h.1, h.2.1, h.2.2⟩
  · cases h
theorem aOp_bare {o : Oper} {KL : St → Prop} (h : aOp P n ⟨o.dst, o.op, 0, "", #[], none⟩ K KL st) : aOp P n o K KL st := h
theorem aOpH_bare {o : Oper} {KL : St → Prop} (h : aOpH P n ⟨o.dst, o.op, 0, "", #[], none⟩ K KL st) : aOpH P n o K KL st := h
theorem awp_reg0 {id : Nat} {l : List Oper} (h : aOps P n l.toArray (l.drop 0) (Q .normal) st) : awp P n lo (.region id l.toArray false) Q st := awp_region h
theorem awp_mix0 {id : Nat} {l : List Oper} (hm : P.follows .mixedOrders = true) (hd : drawAny l = true) (h : aMix P n l.toArray (l.drop 0) (Q .normal) st) : awp P n lo (.region id l.toArray true) Q st := by
  unfold drawAny at hd
  rw [Bool.or_eq_true, Bool.or_eq_true] at hd
  rcases hd with (hd | hd) | hd
  · exact awp_mix hm hd h
  · exact awp_mixL hm hd h
  · exact awp_mixE _ hm hd h
variable {L : List Oper}
theorem drop_to (j m : Nat) (h : Nat.ble j m = true) : (L.drop j).drop (m - j) = L.drop m := by
  have := Nat.le_of_ble_eq_true h
  rw [List.drop_drop]; congr 1; omega
theorem d_run (j m : Nat) (hm : Nat.ble j m = true) (h : (rOps P n ((L.drop j).take (m - j)) st).isSome = true) (hk : aOps P n ops (L.drop m) K ((rOps P n ((L.drop j).take (m - j)) st).getD st)) : aOps P n ops (L.drop j) K st :=
  ops_runT (m - j) h (by rw [drop_to j m hm]; exact hk)
theorem d_runG (j m g : Nat) (want : Bool) (hm : Nat.ble j m = true) {b : Bool} (hy : ((ops[g]?).bind (·.dst)).bind st.E = some (.s (.bool b))) (hb : b = want) (h : (rOpsG P n ops g want ((L.drop j).take (m - j)) st).isSome = true) (hk : aOps P n ops (L.drop m) K ((rOpsG P n ops g want ((L.drop j).take (m - j)) st).getD st)) : aOps P n ops (L.drop j) K st :=
  ops_runGT (m - j) g want hy hb h (by rw [drop_to j m hm]; exact hk)
theorem d_skip (j m g : Nat) (want : Bool) (hm : Nat.ble j m = true) {b : Bool} (hy : ((ops[g]?).bind (·.dst)).bind st.E = some (.s (.bool b))) (hb : b = !want) (h : (rSkip n ops g want ((L.drop j).take (m - j)) st).isSome = true) (hk : aOps P n ops (L.drop m) K ((rSkip n ops g want ((L.drop j).take (m - j)) st).getD st)) : aOps P n ops (L.drop j) K st :=
  ops_skipT (m - j) g want hy hb h (by rw [drop_to j m hm]; exact hk)
theorem d_skipU (j m g : Nat) (want : Bool) (hm : Nat.ble j m = true) (hy : ((ops[g]?).bind (·.dst)).bind st.E = some (.s undef)) (h : (rSkip n ops g want ((L.drop j).take (m - j)) st).isSome = true) (hk : aOps P n ops (L.drop m) K ((rSkip n ops g want ((L.drop j).take (m - j)) st).getD st)) : aOps P n ops (L.drop j) K st :=
  ops_skipUT (m - j) g want hy h (by rw [drop_to j m hm]; exact hk)
theorem d_one (j : Nat) (op : Op) (d : Option Tmp) (ho : atOp L j = some (op, d, none)) (h : aOp P n ⟨d, op, 0, "", #[], none⟩ (aOps P n ops (L.drop (j + 1)) K) (aOps P n ops (L.drop (j + 1)) K) st) : aOps P n ops (L.drop j) K st := by
  obtain ⟨o, hl, rfl, rfl, hg⟩ := atOp_some ho
  rw [hl]; exact ops_one hg (aOp_bare h)
theorem d_oneG (j : Nat) (op : Op) (d : Option Tmp) (g : Nat) (want : Bool) {b : Bool} (ho : atOp L j = some (op, d, some (g, want))) (hy : ((ops[g]?).bind (·.dst)).bind st.E = some (.s (.bool b))) (hb : b = want) (h : aOp P n ⟨d, op, 0, "", #[], none⟩ (aOps P n ops (L.drop (j + 1)) K) (aOps P n ops (L.drop (j + 1)) K) st) : aOps P n ops (L.drop j) K st := by
  obtain ⟨o, hl, rfl, rfl, hg⟩ := atOp_some ho
  rw [hl]; exact ops_oneG hg hy hb (aOp_bare h)
theorem d_nil (j : Nat) (hl : (L.drop j).isEmpty = true) (h : K st) : aOps P n ops (L.drop j) K st := ops_nil (List.isEmpty_iff.1 hl) h
theorem m_nil (j : Nat) (hl : (L.drop j).isEmpty = true) (h : K st) : aMix P n ops (L.drop j) K st := mix_nil (List.isEmpty_iff.1 hl) h
theorem m_run (j m : Nat) (hm : Nat.ble j m = true) (h : (rOpsH P n ((L.drop j).take (m - j)) st).isSome = true) (hk : aMix P n ops (L.drop m) K ((rOpsH P n ((L.drop j).take (m - j)) st).getD st)) : aMix P n ops (L.drop j) K st :=
  mix_runT (m - j) h (by rw [drop_to j m hm]; exact hk)
theorem m_one (j : Nat) (op : Op) (d : Option Tmp) (ho : atOp L j = some (op, d, none)) (hh : heapy op = false) (h : aOpH P n ⟨d, op, 0, "", #[], none⟩ (aMix P n ops (L.drop (j + 1)) K) (aMix P n ops (L.drop (j + 1)) K) st) : aMix P n ops (L.drop j) K st := by
  obtain ⟨o, hl, rfl, rfl, hg⟩ := atOp_some ho
  rw [hl]; exact mix_one hh hg (aOpH_bare h)
theorem m_oneG (j : Nat) (op : Op) (d : Option Tmp) (g : Nat) (want : Bool) {b : Bool} (ho : atOp L j = some (op, d, some (g, want))) (hh : heapy op = false) (hy : ((ops[g]?).bind (·.dst)).bind st.E = some (.s (.bool b))) (hb : b = want) (h : aOpH P n ⟨d, op, 0, "", #[], none⟩ (aMix P n ops (L.drop (j + 1)) K) (aMix P n ops (L.drop (j + 1)) K) st) : aMix P n ops (L.drop j) K st := by
  obtain ⟨o, hl, rfl, rfl, hg⟩ := atOp_some ho
  rw [hl]; exact mix_oneG hh hg hy hb (aOpH_bare h)
theorem m_skip (j : Nat) (op : Op) (d : Option Tmp) (g : Nat) (want : Bool) {b : Bool} (ho : atOp L j = some (op, d, some (g, want))) (hh : heapy op = false) (hy : ((ops[g]?).bind (·.dst)).bind st.E = some (.s (.bool b))) (hb : b = !want) (hd : dstB n d = true) (h : aMix P n ops (L.drop (j + 1)) K (st.put d (.s undef))) : aMix P n ops (L.drop j) K st := by
  obtain ⟨o, hl, rfl, rfl, hg⟩ := atOp_some ho
  rw [hl]; exact mix_skip hh hg hy hb (dstB_ok hd) h
theorem m_skipU (j : Nat) (op : Op) (d : Option Tmp) (g : Nat) (want : Bool) (ho : atOp L j = some (op, d, some (g, want))) (hh : heapy op = false) (hy : ((ops[g]?).bind (·.dst)).bind st.E = some (.s undef)) (hd : dstB n d = true) (h : aMix P n ops (L.drop (j + 1)) K (st.put d (.s undef))) : aMix P n ops (L.drop j) K st := by
  obtain ⟨o, hl, rfl, rfl, hg⟩ := atOp_some ho
  rw [hl]
  unfold aMix
  rw [if_neg (by rw [hh]; decide), hg]
  simp only [hy, yv, undef]
  rw [if_neg (by simp)]
  exact ⟨dstB_ok hd, h⟩
theorem m_ops (j : Nat) (op : Op) (d : Option Tmp) (g : Option (Nat × Bool)) (ho : atOp L j = some (op, d, g)) (hh : heapy op = true) (h : aOps P n ops (L.drop j) K st) : aMix P n ops (L.drop j) K st := by
  obtain ⟨o, hl, rfl, rfl, hg⟩ := atOp_some ho
  rw [hl] at h ⊢; exact mix_ops hh h
/-- A head and a tail, computed. -/
def rMix (P : Program) (n : Nat) : List Oper → St → Option St
  | [], st => some st
  | o :: l, st => if heapy o.op = true then rOps P n (o :: l) st else match o.guard with
    | some _ => none
    | none => match rOpH P n o st with
      | some st' => rMix P n l st'
      | none => none
theorem mix_all {st' : St} : ∀ {l : List Oper} {st : St}, rMix P n l st = some st' → K st' → aMix P n ops l K st
  | [], st, h, hk => by injection h with h; subst h; exact hk
  | o :: l, st, h, hk => by
    unfold rMix at h
    split at h
    · rename_i hh
      exact mix_ops hh (ops_run (l.length + 1) st' (by rw [show l.length + 1 = (o :: l).length from rfl, List.take_length]; exact h) (by rw [show l.length + 1 = (o :: l).length from rfl, List.drop_length]; exact hk))
    · rename_i hh
      split at h
      · cases h
      · rename_i hg
        split at h
        · rename_i st1 h1
          refine mix_one (by simpa using hh) hg ?_
          unfold rOpH at h1
          rw [if_neg hh] at h1
          split at h1
          · rename_i x hx
            obtain ⟨hd, rfl⟩ := rPut_some h1
            exact opH_pure x hx hd (mix_all h hk)
          · cases h1
        · cases h
theorem mix_fin {A : St → Prop} {l : List Oper} (hK : ∀ st st', St.to lo st st' → A st' → K st) (st' : St) (h : trimTo st' (rMix P n l st) = some st') (hl : lo ≤ st'.nx) (hk : A st') : aMix P n ops l K st := by
  obtain ⟨s, hs, ht⟩ := trim_some h hl
  exact mix_all hs (hK _ _ ht hk)
theorem reg_seqD {id : Nat} {l : List Oper} {y : Code} (st' : St) (hm : P.follows .mixedOrders = true) (hd : drawAny l = true) (h : trimTo st' (rMix P n l st) = some st') (hl : lo ≤ st'.nx) (hk : awp P n lo y Q st') : awp P n lo (.seq (.region id l.toArray true) y) Q st := by
  obtain ⟨s, hs, ht⟩ := trim_some h hl
  exact awp_seq (fun K hK => awp_mix0 hm hd (mix_all hs (hK _ _ ht hk)))
end
end Go.Proofs.Ytgggekjhfdkgkaa.Ab
