/- Abstract runs by steps, in a form that is not unfolded by chance. -/
import Derived.Test.YtgggekjhfdkgkaaAbS
import Derived.Laws.StructEq
namespace Go.Proofs.Ytgggekjhfdkgkaa.Ab
open Go Go.RowKit Go.Shelf
theorem rep_s' {w : World} {S : Nat → Prop} {m : Nat → Nat × Nat} {nx : Nat} {u v : Value} (h : Rep w S m nx (.s u) v) : v = u := by cases h; rfl
theorem rep_aggs {w : World} {S : Nat → Prop} {m : Nat → Nat × Nat} {nx : Nat} (l : List Value) {v : Value} (h : Rep w S m nx (.agg (l.map .s)) v) : v = .agg l.toArray := by
  cases h with
  | agg vs hl h =>
    congr 1
    apply Array.ext (by simpa using hl.symm)
    intro i h1 h2
    have h3 : i < l.length := by simpa using h2
    have := h i (.s l[i]) vs[i] (by simp [h3]) (by simp [h1])
    rw [rep_s' this]; simp
/-- No key of the second list is in the first one. -/
def Free (T H : List (Nat × Blk)) : Prop := ∀ b k, get b T = some k → get b H = none
theorem free_nil (H : List (Nat × Blk)) : Free [] H := fun b k h => by cases h
theorem free_grow {α : Type} {b : Nat} {k : Blk} {l : List α} {T H : List (Nat × Blk)} (h : get b H = none) (hT : Free T H) : Free (growH b k l T) H := by
  cases l with
  | nil => exact hT
  | cons x l =>
    intro c q hc
    have hc' : (if c = b then some k else get c T) = some q := hc
    split at hc'
    · rename_i e; rw [e]; exact h
    · exact hT c q hc'
/-- A slice that nobody writes any more: an own one, and one that may be nil. -/
theorem to_frz {α : Type} {c : α → List AV} {k : Nat} {lo : Nat} {st : St} (t b N : Nat) (l : List α) (E : TypeId) (hl : lo ≤ st.nx) (ht : get t st.env = some (.own b N)) (hb : get b st.hp = some ⟨E, k, flat c l⟩) (hk : 0 < k) (hn : l.length = N) (hc : ∀ x, (c x).length = k) (h0 : ∀ x, (c x).all (AV.keyed 0 4) = true) (h1 : ∀ x, (c x).all AV.one = true) :
    St.to lo st ⟨(t, sl k c l) :: st.env, delB b st.hp, st.nx⟩ :=
  to_freeze t b N ⟨E, k, flat c l⟩ (l.map c) hl ht hb hk (by rw [List.length_map]; exact hn) rfl (fun e he => by obtain ⟨x, _, rfl⟩ := List.mem_map.1 he; exact hc x) (fun e he a ha => by
    obtain ⟨x, _, rfl⟩ := List.mem_map.1 he
    exact ⟨List.all_eq_true.1 (h0 x) a ha, List.all_eq_true.1 (h1 x) a ha⟩)
theorem to_freezeG {α : Type} {c : α → List AV} {k : Nat} {lo : Nat} {st : St} (t b : Nat) (l : List α) (E : TypeId) (A T : List (Nat × Blk)) (hl : lo ≤ st.nx) (ht : get t st.env = some (growE b l)) (hh : st.hp = A ++ growH b ⟨E, k, flat c l⟩ l T) (ha : get b (A ++ [(b, ⟨E, k, flat c l⟩)]) = some ⟨E, k, flat c l⟩) (hf : Free T [(b, ⟨E, k, flat c l⟩)]) (hd : delB b A = A) (hk : 0 < k) (hc : ∀ x, (c x).length = k) (h0 : ∀ x, (c x).all (AV.keyed 0 4) = true) (h1 : ∀ x, (c x).all AV.one = true) :
    St.to lo st ⟨(t, sl k c l) :: st.env, A ++ T, st.nx⟩ := by
  cases l with
  | nil =>
    have := to_put (lo := lo) t hl ht (Sub.nil k)
    rw [hh] at this; exact this
  | cons x l =>
    have hget : get b st.hp = some ⟨E, k, flat c (x :: l)⟩ := by
      rw [hh]
      show get b (A ++ (b, _) :: T) = _
      rw [get_append] at ha ⊢
      cases hA : get b A with
      | some q => rw [hA] at ha; exact ha
      | none => show (if b = b then _ else _) = _; rw [if_pos rfl]
    have h2 := to_frz (lo := lo) t b (x :: l).length (x :: l) E hl ht hget hk rfl hc h0 h1
    have hT : delB b T = T := by
      have : ∀ (T : List (Nat × Blk)), (∀ d q, get d T = some q → d ≠ b) → delB b T = T := by
        intro T
        induction T with
        | nil => intro _; rfl
        | cons p T ih =>
          obtain ⟨d, y⟩ := p
          intro hd'
          have hne : d ≠ b := hd' d y (by show (if d = d then some y else get d T) = some y; rw [if_pos rfl])
          show (if b = d then delB b T else (d, y) :: delB b T) = _
          rw [if_neg (fun e => hne e.symm)]
          have : ∀ d' q, get d' T = some q → d' ≠ b := fun d' q hq => by
            by_cases e : d' = d
            · rw [e]; exact hne
            · exact hd' d' q (by show (if d' = d then some y else get d' T) = some q; rw [if_neg e]; exact hq)
          rw [ih this]
      exact this T (fun d q hq e => by
        have := hf d q hq
        subst e
        have h3 : (if d = d then some (⟨E, k, flat c (x :: l)⟩ : Blk) else none) = none := this
        rw [if_pos rfl] at h3; cases h3)
    have hdel : delB b st.hp = A ++ T := by
      rw [hh]
      show delB b (A ++ (b, _) :: T) = _
      have : ∀ (A : List (Nat × Blk)), delB b A = A → ∀ q, delB b (A ++ (b, q) :: T) = A ++ T := by
        intro A
        induction A with
        | nil => intro _ q; show (if b = b then delB b T else _) = _; rw [if_pos rfl, hT]; rfl
        | cons p A ih =>
          obtain ⟨d, y⟩ := p
          intro h1 q
          by_cases e : b = d
          · exfalso
            have h3 : delB b A = (d, y) :: A := by
              have h1' : (if b = d then delB b A else (d, y) :: delB b A) = (d, y) :: A := h1
              rw [if_pos e] at h1'; exact h1'
            have h4 : ∀ (l : List (Nat × Blk)), (delB b l).length ≤ l.length := by
              intro l
              induction l with
              | nil => exact Nat.le_refl _
              | cons p l ih =>
                obtain ⟨d', y'⟩ := p
                show (if b = d' then delB b l else (d', y') :: delB b l).length ≤ _
                split
                · simp; omega
                · simp; omega
            have := h4 A
            rw [h3] at this; simp at this; omega
          · have h1' : (if b = d then delB b A else (d, y) :: delB b A) = (d, y) :: A := h1
            rw [if_neg e] at h1'
            show (if b = d then delB b (A ++ (b, q) :: T) else (d, y) :: delB b (A ++ (b, q) :: T)) = _
            rw [if_neg e, ih (List.cons.inj h1').2 q]; rfl
      exact this A hd _
    rw [hdel] at h2; exact h2
structure Wp (P : Program) (n lo : Nat) (c : Code) (Q : Exit → St → Prop) (st : St) : Prop where
  out : awp P n lo c Q st
structure WOps (P : Program) (n : Nat) (ops : Array Oper) (l : List Oper) (K : St → Prop) (st : St) : Prop where
  out : aOps P n ops l K st
structure WMix (P : Program) (n : Nat) (ops : Array Oper) (l : List Oper) (K : St → Prop) (st : St) : Prop where
  out : aMix P n ops l K st
/-- An operation leads from a state to another one. -/
structure OpTo (P : Program) (n : Nat) (op : Op) (d : Option Tmp) (st st' : St) : Prop where
  run : ∀ K : St → Prop, K st' → aOp P n ⟨d, op, 0, "", #[], none⟩ K K st
structure OpHTo (P : Program) (n : Nat) (op : Op) (d : Option Tmp) (st st' : St) : Prop where
  run : ∀ K : St → Prop, K st' → aOpH P n ⟨d, op, 0, "", #[], none⟩ K K st
section
variable {P : Program} {n lo : Nat} {ops : Array Oper} {L : List Oper} {K : St → Prop} {st : St} {Q : Exit → St → Prop}
theorem w_mono {A A' : St → Prop} (h : ∀ st st', St.to lo st st' → A st' → K st) (ha : ∀ st, A' st → A st) : ∀ st st', St.to lo st st' → A' st' → K st := fun st st' h1 h2 => h st st' h1 (ha st' h2)
theorem w_reg0 {id : Nat} {l : List Oper} (h : WOps P n l.toArray (l.drop 0) (Q .normal) st) : Wp P n lo (.region id l.toArray false) Q st := ⟨awp_reg0 h.out⟩
theorem w_mix0 {id : Nat} {l : List Oper} (hm : P.follows .mixedOrders = true) (hd : drawAny l = true) (h : WMix P n l.toArray (l.drop 0) (Q .normal) st) : Wp P n lo (.region id l.toArray true) Q st := ⟨awp_mix0 hm hd h.out⟩
theorem w_reg {id : Nat} {l : List Oper} {y : Code} (st' : St) (h : trimTo st' (rOps P n l st) = some st') (hl : lo ≤ st'.nx) (hk : Wp P n lo y Q st') : Wp P n lo (.seq (.region id l.toArray false) y) Q st := ⟨reg_seq st' h hl hk.out⟩
theorem w_regD {id : Nat} {l : List Oper} {y : Code} (st' : St) (hm : P.follows .mixedOrders = true) (hd : drawAny l = true) (h : trimTo st' (rMix P n l st) = some st') (hl : lo ≤ st'.nx) (hk : Wp P n lo y Q st') : Wp P n lo (.seq (.region id l.toArray true) y) Q st := ⟨reg_seqD st' hm hd h hl hk.out⟩
theorem w_seq {x y : Code} (h : ∀ K : St → Prop, (∀ st st', St.to lo st st' → Wp P n lo y Q st' → K st) → Wp P n lo x (aThen K Q) st) : Wp P n lo (.seq x y) Q st :=
  ⟨awp_seq (fun K hK => (h K (fun st st' h1 h2 => hK st st' h1 h2.out)).out)⟩
theorem w_assoc {a b c : Code} (h : Wp P n lo (.seq a (.seq b c)) Q st) : Wp P n lo (.seq (.seq a b) c) Q st := ⟨awp_assoc h.out⟩
theorem w_block {id : Nat} {c : Code} (h : Wp P n lo c (aIn id Q) st) : Wp P n lo (.block id c) Q st := ⟨awp_block h.out⟩
theorem w_scope {c : Code} (h : Wp P n lo c (aNoGoto Q) st) : Wp P n lo (.scope c) Q st := ⟨awp_scope h.out⟩
theorem w_skip (h : Q .normal st) : Wp P n lo .skip Q st := ⟨h⟩
theorem w_exit {id : Nat} (h : Q (.exit id) st) : Wp P n lo (.exit id) Q st := ⟨h⟩
theorem w_ret (h : Q .ret st) : Wp P n lo .ret Q st := ⟨h⟩
theorem w_condT {c : Operand} {x y : Code} {b : Bool} (hc : aEv st.E c = some (.s (.bool b))) (hb : b = true) (ht : Wp P n lo x Q st) : Wp P n lo (.cond c x y) Q st := ⟨awp_condT hc hb ht.out⟩
theorem w_condF {c : Operand} {x y : Code} {b : Bool} (hc : aEv st.E c = some (.s (.bool b))) (hb : b = false) (ht : Wp P n lo y Q st) : Wp P n lo (.cond c x y) Q st := ⟨awp_condF hc hb ht.out⟩
theorem w_ite {α : Type} {A B : Option α} {v : α} {b : Bool} {c : Operand} {x y : Code} (h : (if b = true then A else B) = some v) (hc : aEv st.E c = some (.s (.bool b))) (ht : b = true → A = some v → Wp P n lo x Q st) (hf : b = false → B = some v → Wp P n lo y Q st) : Wp P n lo (.cond c x y) Q st :=
  ⟨awp_ite h hc (fun a b => (ht a b).out) (fun a b => (hf a b).out)⟩
theorem w_cut {ρ τ : Type} {X : Option (ρ ⊕ τ)} {REST : ρ → Option τ} {fin : τ} {x y : Code} (h : bindF X REST = some fin) (g : ρ → St)
    (hx : ∀ o, X = some o → (∀ v, o = .inr v → v = fin) → ∀ K : St → Prop, (∀ e st', o = .inl e → St.to lo st' (g e) → K st') → Wp P n lo x (aThen K Q) st) (hy : ∀ e, REST e = some fin → Wp P n lo y Q (g e)) : Wp P n lo (.seq x y) Q st :=
  ⟨awp_cut h g (fun o h1 h2 K h3 => (hx o h1 h2 K h3).out) (fun e h => (hy e h).out)⟩
theorem w_loopO {σ ρ : Type} {body : σ → Option (σ ⊕ ρ)} {s0 : σ} {r : ρ} {c : Code} (h : loopO body s0 = some r) (f : σ → St) (hs : St.to lo st (f s0))
    (round : ∀ s o, body s = some o → (∀ e, o = .inr e → e = r) → ∀ K : St → Prop, (∀ s' st', o = .inl s' → St.to lo st' (f s') → K st') → Wp P n lo c (aThen K Q) (f s)) : Wp P n lo (.loop c) Q st :=
  ⟨awp_loopO h f hs (fun s o h1 h2 K h3 => (round s o h1 h2 K h3).out)⟩
theorem spec_of_wp {f : FuncId} {fn : Func} {c : Code} {args : List AV} {hp : List (Nat × Blk)} {nx : Nat} {r : AV} {hp' : List (Nat × Blk)} {nx' : Nat} {rs : List ResultVar}
    (hf : P.funcs[f]? = some fn) (hname : (fn.name == "runtime.NumGoroutine") = false) (hb : fn.body = some c) (hn : fn.ntmps = n) (hrs : fn.results.toList = rs) (ha : args.length ≤ n)
    (h : Wp P n nx c (aRetF P rs nx r hp' nx') ⟨initEnv 0 args, hp, nx⟩) : Spec P f args hp nx r hp' nx' := spec_of_awpF hf hname hb hn hrs ha h.out
theorem ops_fin' {A : St → Prop} {l : List Oper} (hK : ∀ st st', St.to lo st st' → A st' → K st) (st' : St) (h : trimTo st' (rOps P n l st) = some st') (hl : lo ≤ st'.nx) (hk : A st') : WOps P n ops l K st := ⟨ops_fin hK st' h hl hk⟩
theorem mix_fin' {A : St → Prop} {l : List Oper} (hK : ∀ st st', St.to lo st st' → A st' → K st) (st' : St) (h : trimTo st' (rMix P n l st) = some st') (hl : lo ≤ st'.nx) (hk : A st') : WMix P n ops l K st := ⟨mix_fin hK st' h hl hk⟩
theorem dd_run (j m : Nat) (hm : Nat.ble j m = true) (h : (rOps P n ((L.drop j).take (m - j)) st).isSome = true) (hk : WOps P n ops (L.drop m) K ((rOps P n ((L.drop j).take (m - j)) st).getD st)) : WOps P n ops (L.drop j) K st := ⟨d_run j m hm h hk.out⟩
theorem dd_runG (j m g : Nat) (want : Bool) (hm : Nat.ble j m = true) {b : Bool} (hy : ((ops[g]?).bind (·.dst)).bind st.E = some (.s (.bool b))) (hb : b = want) (h : (rOpsG P n ops g want ((L.drop j).take (m - j)) st).isSome = true) (hk : WOps P n ops (L.drop m) K ((rOpsG P n ops g want ((L.drop j).take (m - j)) st).getD st)) : WOps P n ops (L.drop j) K st := ⟨d_runG j m g want hm hy hb h hk.out⟩
theorem dd_skip (j m g : Nat) (want : Bool) (hm : Nat.ble j m = true) {b : Bool} (hy : ((ops[g]?).bind (·.dst)).bind st.E = some (.s (.bool b))) (hb : b = !want) (h : (rSkip n ops g want ((L.drop j).take (m - j)) st).isSome = true) (hk : WOps P n ops (L.drop m) K ((rSkip n ops g want ((L.drop j).take (m - j)) st).getD st)) : WOps P n ops (L.drop j) K st := ⟨d_skip j m g want hm hy hb h hk.out⟩
theorem dd_skipU (j m g : Nat) (want : Bool) (hm : Nat.ble j m = true) (hy : ((ops[g]?).bind (·.dst)).bind st.E = some (.s undef)) (h : (rSkip n ops g want ((L.drop j).take (m - j)) st).isSome = true) (hk : WOps P n ops (L.drop m) K ((rSkip n ops g want ((L.drop j).take (m - j)) st).getD st)) : WOps P n ops (L.drop j) K st := ⟨d_skipU j m g want hm hy h hk.out⟩
theorem dd_one (j : Nat) (op : Op) (d : Option Tmp) {st' : St} (ho : atOp L j = some (op, d, none)) (h : OpTo P n op d st st') (hk : WOps P n ops (L.drop (j + 1)) K st') : WOps P n ops (L.drop j) K st := ⟨d_one j op d ho (h.run _ hk.out)⟩
theorem dd_oneG (j : Nat) (op : Op) (d : Option Tmp) (g : Nat) (want : Bool) {b : Bool} {st' : St} (ho : atOp L j = some (op, d, some (g, want))) (hy : ((ops[g]?).bind (·.dst)).bind st.E = some (.s (.bool b))) (hb : b = want) (h : OpTo P n op d st st') (hk : WOps P n ops (L.drop (j + 1)) K st') : WOps P n ops (L.drop j) K st := ⟨d_oneG j op d g want ho hy hb (h.run _ hk.out)⟩
theorem dd_nil (j : Nat) (hl : (L.drop j).isEmpty = true) (h : K st) : WOps P n ops (L.drop j) K st := ⟨d_nil j hl h⟩
theorem mm_nil (j : Nat) (hl : (L.drop j).isEmpty = true) (h : K st) : WMix P n ops (L.drop j) K st := ⟨m_nil j hl h⟩
theorem mm_run (j m : Nat) (hm : Nat.ble j m = true) (h : (rOpsH P n ((L.drop j).take (m - j)) st).isSome = true) (hk : WMix P n ops (L.drop m) K ((rOpsH P n ((L.drop j).take (m - j)) st).getD st)) : WMix P n ops (L.drop j) K st := ⟨m_run j m hm h hk.out⟩
theorem mm_one (j : Nat) (op : Op) (d : Option Tmp) {st' : St} (ho : atOp L j = some (op, d, none)) (hh : heapy op = false) (h : OpHTo P n op d st st') (hk : WMix P n ops (L.drop (j + 1)) K st') : WMix P n ops (L.drop j) K st := ⟨m_one j op d ho hh (h.run _ hk.out)⟩
theorem mm_oneG (j : Nat) (op : Op) (d : Option Tmp) (g : Nat) (want : Bool) {b : Bool} {st' : St} (ho : atOp L j = some (op, d, some (g, want))) (hh : heapy op = false) (hy : ((ops[g]?).bind (·.dst)).bind st.E = some (.s (.bool b))) (hb : b = want) (h : OpHTo P n op d st st') (hk : WMix P n ops (L.drop (j + 1)) K st') : WMix P n ops (L.drop j) K st := ⟨m_oneG j op d g want ho hh hy hb (h.run _ hk.out)⟩
theorem mm_skip (j : Nat) (op : Op) (d : Option Tmp) (g : Nat) (want : Bool) {b : Bool} (ho : atOp L j = some (op, d, some (g, want))) (hh : heapy op = false) (hy : ((ops[g]?).bind (·.dst)).bind st.E = some (.s (.bool b))) (hb : b = !want) (hd : dstB n d = true) (h : WMix P n ops (L.drop (j + 1)) K (st.put d (.s undef))) : WMix P n ops (L.drop j) K st := ⟨m_skip j op d g want ho hh hy hb hd h.out⟩
theorem mm_skipU (j : Nat) (op : Op) (d : Option Tmp) (g : Nat) (want : Bool) (ho : atOp L j = some (op, d, some (g, want))) (hh : heapy op = false) (hy : ((ops[g]?).bind (·.dst)).bind st.E = some (.s undef)) (hd : dstB n d = true) (h : WMix P n ops (L.drop (j + 1)) K (st.put d (.s undef))) : WMix P n ops (L.drop j) K st := ⟨m_skipU j op d g want ho hh hy hd h.out⟩
theorem mm_ops (j : Nat) (op : Op) (d : Option Tmp) (g : Option (Nat × Bool)) (ho : atOp L j = some (op, d, g)) (hh : heapy op = true) (h : WOps P n ops (L.drop j) K st) : WMix P n ops (L.drop j) K st := ⟨m_ops j op d g ho hh h.out⟩
variable {op : Op} {d : Option Tmp}
theorem o_pure (x : AV) (h : aPure P (aEv st.E) st.hp op = some x) (hd : dstB n d = true) : OpTo P n op d st (st.put d x) := ⟨fun _ hk => op_pure x h (dstB_ok hd) hk⟩
theorem o_heap (x : AV) (hp : List (Nat × Blk)) (nx : Nat) (h0 : aPure P (aEv st.E) st.hp op = none) (h : aHeap P (aEv st.E) st.hp st.nx op = some (x, hp, nx)) (hd : dstB n d = true) : OpTo P n op d st ((St.mk st.env hp nx).put d x) := ⟨fun _ hk => op_heap x hp nx h0 h (dstB_ok hd) hk⟩
theorem o_cmp {bo : BinOp} {t ty : TypeId} {p q : Operand} {x y : AV} (b : Bool) (h0 : aPure P (aEv st.E) st.hp (.binOp bo t p q ty) = none) (hx : aEv st.E p = some x) (hy : aEv st.E q = some y) (he : EqOk P bo t x y b) (hd : dstB n d = true) : OpTo P n (.binOp bo t p q ty) d st (st.put d (.s (.bool b))) :=
  ⟨fun _ hk => op_cmp b rfl h0 hx hy he (dstB_ok hd) hk⟩
theorem oH_pure (x : AV) (h : aPure P (aEv st.E) st.hp op = some x) (hd : dstB n d = true) : OpHTo P n op d st (st.put d x) := ⟨fun _ hk => opH_pure x h (dstB_ok hd) hk⟩
theorem oH_cmp {bo : BinOp} {t ty : TypeId} {p q : Operand} {x y : AV} (b : Bool) (h0 : aPure P (aEv st.E) st.hp (.binOp bo t p q ty) = none) (hx : aEv st.E p = some x) (hy : aEv st.E q = some y) (he : EqOk P bo t x y b) (hd : dstB n d = true) : OpHTo P n (.binOp bo t p q ty) d st (st.put d (.s (.bool b))) :=
  ⟨fun _ hk => opH_cmp b rfl h0 hx hy he (dstB_ok hd) hk⟩
/-- Whom an operation calls, with what. -/
def callee (st : St) (op : Op) : Option (FuncId × List AV) := calleeOf st ⟨none, op, 0, "", #[], none⟩
theorem callee_of {op : Op} {d : Option Tmp} {x : Option (FuncId × List AV)} (h : callee st op = x) : calleeOf st ⟨d, op, 0, "", #[], none⟩ = x := h
/-- The state behind a call. -/
def behind (st : St) (d : Option Tmp) (ks pk : List Nat) (hp1 hp1' : List (Nat × Blk)) (k : Nat) (r : AV) : St := (St.mk st.env (renH (sg ks st.nx) pk hp1' ++ frame (renH (sg ks st.nx) pk hp1) st.hp) (st.nx + k)).put d (r.ren (sg ks st.nx) 4)
theorem o_callS {g : FuncId} {args : List AV} {hp1 hp1' : List (Nat × Blk)} {r : AV} {n1 n' : Nat} {pk : List Nat} (ks : List Nat) (h : SpecK P pk g args hp1 n1 r hp1' n') (xs : List AV) (hcall : callee st op = some (g, xs)) (hs : SubL xs (args.map (AV.ren (sg ks st.nx) 4)))
    (hks : keysOk ks n1 st.nx = true) (hl : look st.hp (renH (sg ks st.nx) pk hp1) = (renH (sg ks st.nx) pk hp1).map (fun p => some p.2)) (hd : dstB n d = true) : OpTo P n op d st (behind st d ks pk hp1 hp1' (n' - n1) r) :=
  ⟨fun _ hk => op_callS ks h xs (callee_of hcall) hs hks hl hd hk⟩
theorem o_callE {g : FuncId} {args : List AV} {hp1 hp1' : List (Nat × Blk)} {r : AV} {n1 n' : Nat} {pk : List Nat} (ks : List Nat) (h : SpecK P pk g args hp1 n1 r hp1' n') (hcall : callee st op = some (g, args.map (AV.ren (sg ks st.nx) 4)))
    (hks : keysOk ks n1 st.nx = true) (hl : look st.hp (renH (sg ks st.nx) pk hp1) = (renH (sg ks st.nx) pk hp1).map (fun p => some p.2)) (hd : dstB n d = true) : OpTo P n op d st (behind st d ks pk hp1 hp1' (n' - n1) r) :=
  o_callS ks h _ hcall (SubL.refl _) hks hl hd
theorem frame_free {T H : List (Nat × Blk)} (h : Free T H) : frame H T = T := by
  induction T with
  | nil => rfl
  | cons p T ih =>
    obtain ⟨b, k⟩ := p
    have hb := h b k (by show (if b = b then some k else get b T) = some k; rw [if_pos rfl])
    show (match get b H with
      | some _ => frame H T
      | none => (b, k) :: frame H T) = _
    rw [hb]
    by_cases hex : ∀ c q, get c T = some q → get c H = none
    · rw [ih hex]
    · exact absurd (fun c q hc => by
        by_cases e : c = b
        · rw [e]; exact hb
        · exact h c q (by show (if c = b then some k else get c T) = some q; rw [if_neg e]; exact hc)) hex
theorem frame_app {A T H : List (Nat × Blk)} (h : Free T H) : frame H (A ++ T) = frame H A ++ T := by
  induction A with
  | nil => exact frame_free h
  | cons p A ih =>
    obtain ⟨b, k⟩ := p
    show (match get b H with
      | some _ => frame H (A ++ T)
      | none => (b, k) :: frame H (A ++ T)) = (match get b H with
      | some _ => frame H A
      | none => (b, k) :: frame H A) ++ T
    rw [ih]
    cases get b H <;> rfl
/-- A call where there are slices that may be nil. -/
theorem o_callG {g : FuncId} {args : List AV} {hp1 hp1' : List (Nat × Blk)} {r : AV} {n1 n' : Nat} {pk : List Nat} (ks : List Nat) (A T : List (Nat × Blk)) (h : SpecK P pk g args hp1 n1 r hp1' n') (xs : List AV) (hcall : callee st op = some (g, xs)) (hs : SubL xs (args.map (AV.ren (sg ks st.nx) 4)))
    (hks : keysOk ks n1 st.nx = true) (hl : look st.hp (renH (sg ks st.nx) pk hp1) = (renH (sg ks st.nx) pk hp1).map (fun p => some p.2)) (hA : st.hp = A ++ T) (hf : Free T (renH (sg ks st.nx) pk hp1)) (hd : dstB n d = true) :
    OpTo P n op d st ((St.mk st.env ((renH (sg ks st.nx) pk hp1' ++ frame (renH (sg ks st.nx) pk hp1) A) ++ T) (st.nx + (n' - n1))).put d (r.ren (sg ks st.nx) 4)) := by
  have := o_callS (op := op) (d := d) ks h xs hcall hs hks hl hd
  unfold behind at this
  have e : renH (sg ks st.nx) pk hp1' ++ frame (renH (sg ks st.nx) pk hp1) st.hp = (renH (sg ks st.nx) pk hp1' ++ frame (renH (sg ks st.nx) pk hp1) A) ++ T := by
    rw [hA, frame_app hf, List.append_assoc]
  rw [e] at this; exact this
theorem o_callPS {g : FuncId} {args : List AV} {r : AV} (h : SpecK P [] g args [] 0 r [] 0) (xs : List AV) (hcall : callee st op = some (g, xs)) (hs : SubL xs args) (hd : dstB n d = true) : OpTo P n op d st (st.put d r) :=
  ⟨fun _ hk => op_callPS h xs (callee_of hcall) hs hd hk⟩
theorem o_callP {g : FuncId} {args : List AV} {r : AV} (h : SpecK P [] g args [] 0 r [] 0) (hcall : callee st op = some (g, args)) (hd : dstB n d = true) : OpTo P n op d st (st.put d r) := o_callPS h args hcall (SubL.refl _) hd
theorem oH_callS {g : FuncId} {args : List AV} {hp1 : List (Nat × Blk)} {r : AV} {n1 : Nat} {pk : List Nat} (ks : List Nat) (h : SpecK P pk g args hp1 n1 r hp1 n1) (xs : List AV) (hcall : callee st op = some (g, xs)) (hs : SubL xs (args.map (AV.ren (sg ks st.nx) 4)))
    (hks : keysOk ks n1 st.nx = true) (hl : look st.hp (renH (sg ks st.nx) pk hp1) = (renH (sg ks st.nx) pk hp1).map (fun p => some p.2)) (hd : dstB n d = true) : OpHTo P n op d st (st.put d (r.ren (sg ks st.nx) 4)) :=
  ⟨fun _ hk => opH_callS ks h xs (callee_of hcall) hs hks hl hd hk⟩
theorem oH_callE {g : FuncId} {args : List AV} {hp1 : List (Nat × Blk)} {r : AV} {n1 : Nat} {pk : List Nat} (ks : List Nat) (h : SpecK P pk g args hp1 n1 r hp1 n1) (hcall : callee st op = some (g, args.map (AV.ren (sg ks st.nx) 4)))
    (hks : keysOk ks n1 st.nx = true) (hl : look st.hp (renH (sg ks st.nx) pk hp1) = (renH (sg ks st.nx) pk hp1).map (fun p => some p.2)) (hd : dstB n d = true) : OpHTo P n op d st (st.put d (r.ren (sg ks st.nx) 4)) :=
  oH_callS ks h _ hcall (SubL.refl _) hks hl hd
theorem oH_callPS {g : FuncId} {args : List AV} {r : AV} (h : SpecK P [] g args [] 0 r [] 0) (xs : List AV) (hcall : callee st op = some (g, xs)) (hs : SubL xs args) (hd : dstB n d = true) : OpHTo P n op d st (st.put d r) :=
  ⟨fun _ hk => opH_callPS h xs (callee_of hcall) hs hd hk⟩
theorem oH_callP {g : FuncId} {args : List AV} {r : AV} (h : SpecK P [] g args [] 0 r [] 0) (hcall : callee st op = some (g, args)) (hd : dstB n d = true) : OpHTo P n op d st (st.put d r) := oH_callPS h args hcall (SubL.refl _) hd
end
end Go.Proofs.Ytgggekjhfdkgkaa.Ab
