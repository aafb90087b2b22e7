/- Abstract runs, part 10: a function does what its abstract run says. -/
import Derived.Test.YtgggekjhfdkgkaaAbM5
namespace Go.Proofs.Ytgggekjhfdkgkaa.Ab
open Go Go.RowKit Go.Shelf
section
variable {P : Program} {n : Nat} {F : Fr}
theorem awp_sound (hn : F.n = n) {lo : Nat} (hlo : F.ni ≤ lo) : ∀ (c : Code) {Q : Exit → St → Prop} {st : St} {a : Act} {w : World}, awp P n lo c Q st → Sim F st a w → c.wp P (fun e a' w' => ∃ st', Q e st' ∧ Sim F st' a' w') a w := by
  intro c
  induction c with
  | skip => intro Q st a w h hs; exact wp_skip ⟨st, h, hs⟩
  | region id ops draw =>
    intro Q st a w h hs
    unfold awp at h
    cases draw with
    | true => exact aDraw_sound hn h hs (fun st' a' w' hk hs' => ⟨st', hk, hs'⟩)
    | false => exact wp_region_list (aOps_sound hn ops.toList h hs (fun st' a' w' hk hs' => ⟨st', hk, hs'⟩))
  | seq x y ihx ihy =>
    intro Q st a w h hs
    refine wp_seq (wp_mono (ihx h hs) fun e a' w' ⟨st', hq, hs'⟩ => ?_)
    cases e <;> first
      | (obtain ⟨st'', ht, hq⟩ := hq; exact ihy hq (ht.2 _ _ _ hlo hs'))
      | exact ⟨st', hq, hs'⟩
  | cond c x y ihx ihy =>
    intro Q st a w h hs
    unfold awp at h
    split at h
    · rename_i b hc
      have hs0 := hs
      obtain ⟨hd, htn, S, m, hm, hE⟩ := hs
      have hv : a.eval c = .bool b := by
        have := Sim.ev hE c _ hc
        obtain ⟨v, hv⟩ : ∃ v, a.eval c = v := ⟨_, rfl⟩
        rw [hv] at this ⊢
        cases this; rfl
      exact wp_cond_split hv (fun ht => ihx (h.1 ht) hs0) (fun hf => ihy (h.2 hf) hs0)
    · exact h.elim
  | block id c ih =>
    intro Q st a w h hs
    refine wp_block (wp_mono (ih h hs) fun e a' w' ⟨st', hq, hs'⟩ => ?_)
    cases e with
    | exit id' =>
      have hq' : if id' = id then Q .normal st' else Q (.exit id') st' := hq
      show if id' = id then _ else _
      split
      · rename_i he; rw [if_pos he] at hq'; exact ⟨st', hq', hs'⟩
      · rename_i he; rw [if_neg he] at hq'; exact ⟨st', hq', hs'⟩
    | _ => exact ⟨st', hq, hs'⟩
  | loop c ih =>
    intro Q st a w h hs
    obtain ⟨I, ⟨k, st0, hk, ht0⟩, hround⟩ := h
    refine wp_loop_ghost (fun k a w => ∃ st, I k st ∧ Sim F st a w) k ⟨st0, hk, ht0.2 _ _ _ hlo hs⟩ fun k a w ⟨st, hI, hs⟩ => wp_mono (ih (hround k st hI) hs) fun e a' w' ⟨st', hq, hs'⟩ => ?_
    cases e <;> first
      | (obtain ⟨k', st'', hlt, hI', ht'⟩ := hq; exact ⟨k', hlt, st'', hI', ht'.2 _ _ _ hlo hs'⟩)
      | exact ⟨st', hq, hs'⟩
  | exit id => intro Q st a w h hs; exact wp_exit ⟨st, h, hs⟩
  | label l => intro Q st a w h hs; exact wp_label ⟨st, h, hs⟩
  | scope c ih =>
    intro Q st a w h hs
    refine wp_scope_straight (wp_mono (ih h hs) fun e a' w' ⟨st', hq, hs'⟩ => ?_)
    cases e <;> first
      | exact hq.elim
      | exact ⟨st', hq, hs'⟩
  | ret => intro Q st a w h hs; exact wp_ret ⟨st, h, hs⟩
  | rangeFunc f ps x y ihx ihy => intro Q st a w h hs; exact h.elim
  | goto l => intro Q st a w h hs; exact h.elim
  | refuse why => intro Q st a w h hs; exact h.elim
/-- A function does what its abstract run says. -/
theorem spec_of_awp {f : FuncId} {fn : Func} {c : Code} {args : List AV} {hp : List (Nat × Blk)} {nx : Nat} {r : AV} {hp' : List (Nat × Blk)} {nx' : Nat} {rs : List ResultVar}
    (hf : P.funcs[f]? = some fn) (hname : (fn.name == "runtime.NumGoroutine") = false) (hb : fn.body = some c) (hn : fn.ntmps = n) (hrs : fn.results.toList = rs) (ha : args.length ≤ n)
    (h : awp P n nx c (aRet P rs nx r hp' nx') ⟨initEnv 0 args, hp, nx⟩) : Spec P f args hp nx r hp' nx' := by
  refine ⟨enters_of hf hname hb, fun w S m vs hm hr => ?_⟩
  refine calls_of_wp hf hb ?_
  rw [hn]
  let F : Fr := ⟨w, Lv hp m, S, n, m, nx⟩
  have hm' : Mem F hp nx w S m := ⟨hm.os, hm.tape, hm.output, hm.size, hm.keep, hm.old, hm.agree, hm.nile, hm.lt, hm.live, hm.cells, hm.inj⟩
  have hs := sim_init F args hp nx vs w S m hm' hr ha
  refine wp_mono (awp_sound (F := F) rfl (Nat.le_refl _) c h hs) fun e a' w' ⟨st', hq, hs'⟩ => ?_
  have := ret_sound (F := F) (fn := fn) hrs rfl hq hs'
  cases e <;> first
    | exact hq.elim
    | (obtain ⟨h1, v, h2, v', S', m', h3, h4, h5⟩ := this
       exact ⟨h1, v, h2, v', S', m', h3, ⟨h4.os, h4.tape, h4.output, h4.size, h4.keep, h4.old, h4.agree, h4.nile, h4.lt, h4.live, h4.cells, h4.inj⟩, h5⟩)
/-- The slots that are still looked at. -/
def keepE : List Nat → List (Nat × AV) → List (Nat × AV)
  | [], _ => []
  | k :: ks, env => match get k env with
    | some x => (k, x) :: keepE ks env
    | none => keepE ks env
theorem get_keepE (env : List (Nat × AV)) (t : Nat) (x : AV) : ∀ ks, get t (keepE ks env) = some x → get t env = some x
  | [], h => by cases h
  | k :: ks, h => by
    unfold keepE at h
    split at h
    · rename_i y hy
      have h' : (if t = k then some y else get t (keepE ks env)) = some x := h
      split at h'
      · rename_i e; subst e; rw [hy]; exact h'
      · exact get_keepE env t x ks h'
    · exact get_keepE env t x ks h
theorem to_keep {lo : Nat} {st : St} (ks : List Nat) (h : lo ≤ st.nx) : St.to lo st ⟨keepE ks st.env, st.hp, st.nx⟩ :=
  ⟨h, fun F a w _ ⟨hd, htn, S, m, hm, hE⟩ => ⟨hd, htn, S, m, hm, fun t x hx => hE t x (get_keepE _ _ _ ks hx)⟩⟩
/-- A state with less in it: slots and blocks are forgotten, the next number is put back. -/
theorem to_less {lo : Nat} {st st' : St} (h : lo ≤ st'.nx) (hE : ∀ t x, get t st'.env = some x → get t st.env = some x ∧ x.keyed st'.nx 4 = true) (hH : ∀ b k, get b st'.hp = some k → get b st.hp = some k ∧ b < st'.nx ∧ k.cs.all (AV.keyed st'.nx 4) = true) : St.to lo st st' :=
  ⟨h, fun F a w hlo ⟨hd, htn, S, m, hm, hE'⟩ => ⟨hd, htn, S, m, hm.lower (Nat.le_trans hlo h) hH, fun t x hx => ⟨(hE' t x (hE t x hx).1).1, (hE' t x (hE t x hx).1).2.lower 4 (hE t x hx).2⟩⟩⟩
theorem to_sub {lo : Nat} {st st' : St} (h : lo ≤ st'.nx) (hE : subE st'.nx st.env st'.env) (hH : subH st'.nx st.hp st'.hp) : St.to lo st st' := to_less h (subE_spec hE) (subH_spec hH)

variable {lo : Nat} {Q : Exit → St → Prop} {st : St}
theorem awp_seq {x y : Code} (h : ∀ K : St → Prop, (∀ st st', St.to lo st st' → awp P n lo y Q st' → K st) → awp P n lo x (aThen K Q) st) : awp P n lo (.seq x y) Q st :=
  h _ (fun st st' h1 h2 => ⟨st', h1, h2⟩)
theorem awp_go {A : St → Prop} {K : St → Prop} (hK : ∀ st st', St.to lo st st' → A st' → K st) (ks : List Nat) (hl : lo ≤ st.nx) (h : A ⟨keepE ks st.env, st.hp, st.nx⟩) : K st := hK _ _ (to_keep ks hl) h
theorem awp_to {A : St → Prop} {K : St → Prop} (hK : ∀ st st', St.to lo st st' → A st' → K st) (st' : St) (hs : St.to lo st st') (h : A st') : K st := hK _ _ hs h
theorem awp_region {id : Nat} {ops : List Oper} (h : aOps P n ops.toArray ops (Q .normal) st) : awp P n lo (.region id ops.toArray false) Q st := by
  unfold awp; rw [if_neg (by decide)]; simpa using h
theorem awp_draw {id : Nat} {ops : List Oper} (k : Nat) (hm : P.follows .mixedOrders = true) (hk : drawOk ops.toArray k = true) (h : aHead P n ops.toArray (ops.take k) (fun st => aOps P n ops.toArray (ops.drop k) (Q .normal) st) st) : awp P n lo (.region id ops.toArray true) Q st := by
  unfold awp; rw [if_pos rfl]; exact ⟨hm, k, .inl hk, by simpa using h⟩
theorem awp_drawL {id : Nat} {ops : List Oper} (k : Nat) (hm : P.follows .mixedOrders = true) (hk : drawOkL ops.toArray k = true) (h : aHead P n ops.toArray (ops.take k) (fun st => aOps P n ops.toArray (ops.drop k) (Q .normal) st) st) : awp P n lo (.region id ops.toArray true) Q st := by
  unfold awp; rw [if_pos rfl]; exact ⟨hm, k, .inr (.inl hk), by simpa using h⟩
theorem awp_drawE {id : Nat} {ops : List Oper} (k e : Nat) (hm : P.follows .mixedOrders = true) (hk : drawOkE ops.toArray k e = true) (h : aHead P n ops.toArray (ops.take k) (fun st => aOps P n ops.toArray (ops.drop k) (Q .normal) st) st) : awp P n lo (.region id ops.toArray true) Q st := by
  unfold awp; rw [if_pos rfl]; exact ⟨hm, k, .inr (.inr ⟨e, hk⟩), by simpa using h⟩
/-- Does an operation make or write own blocks? -/
def heapy : Op → Bool
  | .alloc _ => true
  | .store _ _ _ => true
  | .makeSlice _ _ _ => true
  | .buildSlice _ n _ => n == 0
  | .call c => (match c.callee with
    | .builtin .append => true
    | _ => false)
  | _ => false
def headN : List Oper → Nat
  | [] => 0
  | o :: l => if heapy o.op = true then 0 else headN l + 1
/-- Such a region's operations: those that write nothing, and from the first other one on all in the order of the text. -/
def aMix (P : Program) (n : Nat) (ops : Array Oper) : List Oper → (St → Prop) → St → Prop
  | [], K, st => K st
  | o :: l, K, st => if heapy o.op = true then aOps P n ops (o :: l) K st else match o.guard with
    | none => aOpH P n o (aMix P n ops l K) (aMix P n ops l K) st
    | some (j, want) => match yv (((ops[j]?).bind (·.dst)).bind st.E) with
      | some b => if b = some want then aOpH P n o (aMix P n ops l K) (aMix P n ops l K) st else dstOk n o.dst ∧ aMix P n ops l K (st.put o.dst (.s undef))
      | none => False
def aLockM (P : Program) (n : Nat) (ops : Array Oper) (l : List Oper) (K : St → Prop) (st : St) : Prop := aMix P n ops l K st
theorem aMix_nil (P : Program) (n : Nat) (ops : Array Oper) (K : St → Prop) (st : St) : aMix P n ops [] K st = K st := rfl
theorem aMix_cons (P : Program) (n : Nat) (ops : Array Oper) (o : Oper) (l : List Oper) (K : St → Prop) (st : St) : aMix P n ops (o :: l) K st = if heapy o.op = true then aOps P n ops (o :: l) K st else match o.guard with
    | none => aOpH P n o (aMix P n ops l K) (aLockM P n ops l K) st
    | some (j, want) => match yv (((ops[j]?).bind (·.dst)).bind st.E) with
      | some b => if b = some want then aOpH P n o (aMix P n ops l K) (aLockM P n ops l K) st else dstOk n o.dst ∧ aMix P n ops l K (st.put o.dst (.s undef))
      | none => False := rfl
theorem mix_head (ops : Array Oper) (K : St → Prop) : ∀ (l : List Oper), aMix P n ops l K = aHead P n ops (l.take (headN l)) (fun st => aOps P n ops (l.drop (headN l)) K st)
  | [] => rfl
  | o :: l => by
    funext st
    unfold aMix headN
    by_cases h : heapy o.op = true
    · rw [if_pos h, if_pos h]; rfl
    · rw [if_neg h, if_neg h, mix_head ops K l]; rfl
theorem awp_mix {id : Nat} {ops : List Oper} (hm : P.follows .mixedOrders = true) (hk : drawOk ops.toArray (headN ops) = true) (h : aMix P n ops.toArray ops (Q .normal) st) : awp P n lo (.region id ops.toArray true) Q st :=
  awp_draw (headN ops) hm hk (by rw [mix_head] at h; exact h)
theorem awp_mixL {id : Nat} {ops : List Oper} (hm : P.follows .mixedOrders = true) (hk : drawOkL ops.toArray (headN ops) = true) (h : aMix P n ops.toArray ops (Q .normal) st) : awp P n lo (.region id ops.toArray true) Q st :=
  awp_drawL (headN ops) hm hk (by rw [mix_head] at h; exact h)
theorem awp_mixE {id : Nat} {ops : List Oper} (e : Nat) (hm : P.follows .mixedOrders = true) (hk : drawOkE ops.toArray (headN ops) e = true) (h : aMix P n ops.toArray ops (Q .normal) st) : awp P n lo (.region id ops.toArray true) Q st :=
  awp_drawE (headN ops) e hm hk (by rw [mix_head] at h; exact h)
theorem awp_cond {c : Operand} {x y : Code} (b : Bool) (hc : aEv st.E c = some (.s (.bool b))) (ht : b = true → awp P n lo x Q st) (hf : b = false → awp P n lo y Q st) : awp P n lo (.cond c x y) Q st := by
  unfold awp; rw [hc]; exact ⟨ht, hf⟩
theorem awp_condT {c : Operand} {x y : Code} {b : Bool} (hc : aEv st.E c = some (.s (.bool b))) (hb : b = true) (ht : awp P n lo x Q st) : awp P n lo (.cond c x y) Q st :=
  awp_cond b hc (fun _ => ht) (fun h => by rw [hb] at h; cases h)
theorem awp_condF {c : Operand} {x y : Code} {b : Bool} (hc : aEv st.E c = some (.s (.bool b))) (hb : b = false) (ht : awp P n lo y Q st) : awp P n lo (.cond c x y) Q st :=
  awp_cond b hc (fun h => by rw [hb] at h; cases h) (fun _ => ht)
theorem awp_block {id : Nat} {c : Code} (h : awp P n lo c (aIn id Q) st) : awp P n lo (.block id c) Q st := h
theorem awp_skip (h : Q .normal st) : awp P n lo .skip Q st := h
theorem awp_exit {id : Nat} (h : Q (.exit id) st) : awp P n lo (.exit id) Q st := h
theorem awp_ret (h : Q .ret st) : awp P n lo .ret Q st := h
theorem awp_scope {c : Code} (h : awp P n lo c (aNoGoto Q) st) : awp P n lo (.scope c) Q st := h
theorem in_normal {id : Nat} (h : Q .normal st) : aIn id Q .normal st := h
theorem in_ret {id : Nat} (h : Q .ret st) : aIn id Q .ret st := h
theorem in_exit {id : Nat} (h : Q .normal st) : aIn id Q (.exit id) st := by
  show (if id = id then Q .normal st else Q (.exit id) st)
  rw [if_pos rfl]; exact h
theorem in_other {id id' : Nat} (hne : id' ≠ id) (h : Q (.exit id') st) : aIn id Q (.exit id') st := by
  show (if id' = id then Q .normal st else Q (.exit id') st)
  rw [if_neg hne]; exact h
theorem then_normal {K : St → Prop} (h : K st) : aThen K Q .normal st := h
theorem then_ret {K : St → Prop} (h : Q .ret st) : aThen K Q .ret st := h
theorem then_exit {K : St → Prop} {id : Nat} (h : Q (.exit id) st) : aThen K Q (.exit id) st := h
/-- A loop whose states are told by a value: what the slots hold at its head. -/
theorem awp_loop {α : Type} {c : Code} (f : α → St) (inv : Nat → α → Prop) (k0 : Nat) (x0 : α) (h0 : inv k0 x0) (hs : St.to lo st (f x0))
    (round : ∀ k x, inv k x → ∀ K : St → Prop, (∀ st' k' x', k' < k → inv k' x' → St.to lo st' (f x') → K st') → awp P n lo c (aThen K Q) (f x)) : awp P n lo (.loop c) Q st := by
  refine ⟨fun k st => ∃ x, inv k x ∧ st = f x, ⟨k0, f x0, ⟨x0, h0, rfl⟩, hs⟩, fun k st ⟨x, hx, e⟩ => ?_⟩
  subst e
  exact round k x hx _ (fun st' k' x' h1 h2 h3 => ⟨k', f x', h1, ⟨x', h2, rfl⟩, h3⟩)
theorem frame_nil : ∀ hp : List (Nat × Blk), frame [] hp = hp
  | [] => rfl
  | (b, k) :: l => by show (b, k) :: frame [] l = _; rw [frame_nil l]
theorem get_nil (b : Nat) (k : Blk) (p : Prop) (h : get b [] = some k) : p := by cases h
theorem call_sub {f : FuncId} {args args' : List AV} {hp : List (Nat × Blk)} {nx : Nat} {K : AV → List (Nat × Blk) → Nat → Prop} {r : AV} (hs : SubL args args') (h : Spec P f args' [] nx r [] nx) (hk : K r hp nx) : CallP P f args hp nx K :=
  ⟨args', [], r, [], nx, hs, h, (fun b k hg => get_nil b k _ hg), (fun b k hg _ => get_nil b k _ hg), (by rw [List.nil_append, frame_nil]; exact hk)⟩
/-- A call of a function that is given no blocks and hands none back. -/
theorem call_pure {f : FuncId} {args : List AV} {hp : List (Nat × Blk)} {nx : Nat} {K : AV → List (Nat × Blk) → Nat → Prop} {r : AV} (h : Spec P f args [] nx r [] nx) (hk : K r hp nx) : CallP P f args hp nx K := call_sub (SubL.refl _) h hk
theorem callH_sub {f : FuncId} {args args' : List AV} {hp : List (Nat × Blk)} {nx : Nat} {K : AV → Prop} {r : AV} (hs : SubL args args') (h : Spec P f args' [] nx r [] nx) (hk : K r) : CallH P f args hp nx K :=
  ⟨args', [], r, hs, h, (fun b k hg => get_nil b k _ hg), hk⟩
theorem callH_pure {f : FuncId} {args : List AV} {hp : List (Nat × Blk)} {nx : Nat} {K : AV → Prop} {r : AV} (h : Spec P f args [] nx r [] nx) (hk : K r) : CallH P f args hp nx K := callH_sub (SubL.refl _) h hk
/-- A call of a function that hands back a new block. -/
theorem call_new {f : FuncId} {args args' : List AV} {hp hp' : List (Nat × Blk)} {nx nx' : Nat} {K : AV → List (Nat × Blk) → Nat → Prop} {r : AV} (hs : SubL args args') (h : Spec P f args' [] nx r hp' nx') (hn : ∀ b k, get b hp' = some k → nx ≤ b) (hk : K r (hp' ++ hp) nx') : CallP P f args hp nx K :=
  ⟨args', [], r, hp', nx', hs, h, (fun b k hg => get_nil b k _ hg), (fun b k hg hlt => absurd (hn b k hg) (by omega)), (by rw [frame_nil]; exact hk)⟩
theorem cmp_is {op : BinOp} {t : TypeId} {x y : AV} {K : Bool → Prop} (b : Bool) (h : EqOk P op t x y b) (hk : K b) : CmpP P op t x y K := ⟨b, h, hk⟩
theorem wrapI (n : Int) (h1 : -9223372036854775808 ≤ n) (h2 : n ≤ 9223372036854775807) : IntKind.i64.wrap n = n := by rw [IntKind.wrap_i64]; omega
theorem wrapU (n : Int) (h1 : 0 ≤ n) (h2 : n ≤ 18446744073709551615) : IntKind.u64.wrap n = n := by rw [IntKind.wrap_u64]; omega
end
end Go.Proofs.Ytgggekjhfdkgkaa.Ab
