/- Abstract runs: an own row that nobody writes any more; calls that are given blocks. -/
import Derived.Test.YtgggekjhfdkgkaaAbJ
namespace Go.Proofs.Ytgggekjhfdkgkaa.Ab
open Go Go.RowKit Go.Shelf
section
variable {P : Program} {n lo : Nat} {st : St} {F : Fr} {Q : Exit → St → Prop}
/-- An own row is handed out: from here on nobody writes it. -/
theorem Mem.freeze {hp : List (Nat × Blk)} {nx : Nat} {w : World} {S : Nat → Prop} {m : Nat → Nat × Nat} (h : Mem F hp nx w S m) {c : Nat} {k : Blk} (hg : get c hp = some k) (hz0 : 0 < k.sz) {es : List (List AV)} (hes : k.cs = es.flatten)
    (hz : ∀ e ∈ es, e.length = k.sz) (hk : ∀ e ∈ es, ∀ a ∈ e, a.keyed 0 4 = true ∧ a.one = true) :
    ∃ S' : Nat → Prop, Mem F (delB c hp) nx w S' m ∧ (∀ x v, Rep w S m nx x v → Rep w S' m nx x v) ∧ Rep w S' m nx (.sl k.sz es) (.slice (some ⟨(m c).1, 0, none⟩) es.length (m c).2) := by
  obtain ⟨l1, l2, l3⟩ := h.live c k hg
  obtain ⟨cur, c1, c2, c3⟩ := h.cells c k hg
  have hup : ∀ x v, Rep w S m nx x v → Rep w (fun i => S i ∧ i ≠ (m c).1) m nx x v := fun x v hr => hr.mono (fun i _ hS => ⟨rfl, fun hh => hS hh.1⟩) (fun _ _ => rfl) (Nat.le_refl _)
  refine ⟨fun i => S i ∧ i ≠ (m c).1, ⟨h.os, h.tape, h.output, h.size, h.keep, fun i hi => ⟨fun hh => (h.old i hi).1 hh.1, fun h1 h2 => ⟨(h.old i hi).2 h1 h2, fun e => by subst e; rcases l3 with l3 | l3; exact h2 l3; omega⟩⟩, h.agree, h.nile, fun i hh => h.lt i hh.1, fun b q hq => ?_, fun b q hq => ?_, fun b b' q q' hq hq' => ?_⟩, hup, ?_⟩
  · rw [get_delB] at hq
    split at hq
    · cases hq
    · rename_i hne
      obtain ⟨x1, x2, x3⟩ := h.live b q hq
      exact ⟨x1, ⟨x2, fun e => hne (h.inj b c q k hq hg e)⟩, x3⟩
  · rw [get_delB] at hq
    split at hq
    · cases hq
    · obtain ⟨cur', x1, x2, x3⟩ := h.cells b q hq
      exact ⟨cur', x1, fun j x hx => by obtain ⟨v, y1, y2⟩ := x2 j x hx; exact ⟨v, y1, hup _ _ y2⟩, x3⟩
  · rw [get_delB] at hq hq'
    split at hq
    · cases hq
    · split at hq'
      · cases hq'
      · exact h.inj b b' q q' hq hq'
  · have hat : ∀ (i : Nat) (e : List AV) (j : Nat) (a : AV), es[i]? = some e → e[j]? = some a → ∃ v, cur[i * k.sz + j]? = some v ∧ Rep w S m nx a v := fun i e j a he ha => by
      have hj : j < k.sz := by rw [← hz e (List.mem_of_getElem? he)]; exact (List.getElem?_eq_some_iff.1 ha).1
      refine c2 _ a ?_
      rw [hes, flatten_get k.sz hz0 es hz, show (i * k.sz + j) / k.sz = i by rw [Nat.mul_comm, Nat.mul_add_div hz0, Nat.div_eq_of_lt hj, Nat.add_zero], show (i * k.sz + j) % k.sz = j by rw [Nat.mul_comm, Nat.mul_add_mod, Nat.mod_eq_of_lt hj], he]
      exact ha
    have hv : ∀ (i : Nat) (e : List AV) (j : Nat) (a : AV), es[i]? = some e → e[j]? = some a → cur[i * k.sz + j]? = some (cur.getD (i * k.sz + j) undef) ∧ Rep w S m nx a (cur.getD (i * k.sz + j) undef) := fun i e j a he ha => by
      obtain ⟨v, h1, h2⟩ := hat i e j a he ha
      have : cur.getD (i * k.sz + j) undef = v := by simp [Array.getD_eq_getD_getElem?, h1]
      rw [this]; exact ⟨h1, h2⟩
    refine .sl (m c).1 0 (m c).2 (fun i j => cur.getD (i * k.sz + j) undef) (h.lt _ l2) (fun hh => hh.2 rfl) hz (fun i e j a he ha => ?_) (fun i e j a he ha => ?_) (fun i e j a he ha => ?_)
    · rw [Nat.zero_add]
      simp only [World.cell?, c1]
      simpa using (hv i e j a he ha).1
    · exact (hv i e j a he ha).2.oneC (hk e (List.mem_of_getElem? he) a (List.mem_of_getElem? ha)).2
    · exact (hup _ _ (hv i e j a he ha).2).lower 4 (hk e (List.mem_of_getElem? he) a (List.mem_of_getElem? ha)).1
theorem to_freeze (t c k : Nat) (q : Blk) (es : List (List AV)) (hl : lo ≤ st.nx) (ht : get t st.env = some (.own c k)) (hg : get c st.hp = some q) (hz0 : 0 < q.sz) (hlen : es.length = k) (hes : q.cs = es.flatten) (hz : ∀ e ∈ es, e.length = q.sz) (hk : ∀ e ∈ es, ∀ a ∈ e, a.keyed 0 4 = true ∧ a.one = true) :
    St.to lo st ⟨(t, .sl q.sz es) :: st.env, delB c st.hp, st.nx⟩ := by
  refine ⟨hl, fun F a w hF ⟨h1, h2, S, m, hm, hE⟩ => ?_⟩
  obtain ⟨S', f1, f2, f3⟩ := hm.freeze hg hz0 hes hz hk
  refine ⟨h1, h2, S', m, f1, fun s x hs => ?_⟩
  by_cases e : s = t
  · subst e
    have hx : x = .sl q.sz es := by
      have : get s ((s, AV.sl q.sz es) :: st.env) = some (.sl q.sz es) := by show (if s = s then _ else _) = _; rw [if_pos rfl]
      have hs' : get s ((s, AV.sl q.sz es) :: st.env) = some x := hs
      rw [this] at hs'; injection hs' with hs'; exact hs'.symm
    subst hx
    obtain ⟨g1, g2⟩ := hE s _ ht
    refine ⟨g1, ?_⟩
    generalize a.tmps.getD s undef = u at *
    cases g2
    rw [← hlen]; exact f3
  · have hs' : get s st.env = some x := by
      have : get s ((t, AV.sl q.sz es) :: st.env) = get s st.env := by show (if s = t then _ else _) = _; rw [if_neg e]
      rw [← this]; exact hs
    obtain ⟨g1, g2⟩ := hE s x hs'
    exact ⟨g1, f2 _ _ g2⟩
theorem to_put {x y : AV} (t : Nat) (hl : lo ≤ st.nx) (ht : get t st.env = some x) (hs : Sub x y) : St.to lo st ⟨(t, y) :: st.env, st.hp, st.nx⟩ := by
  refine ⟨hl, fun F a w hF ⟨h1, h2, S, m, hm, hE⟩ => ⟨h1, h2, S, m, hm, fun s z hz => ?_⟩⟩
  by_cases e : s = t
  · subst e
    have hz' : get s ((s, y) :: st.env) = some z := hz
    have : get s ((s, y) :: st.env) = some y := by show (if s = s then _ else _) = _; rw [if_pos rfl]
    rw [this] at hz'; injection hz' with hz'; subst hz'
    obtain ⟨g1, g2⟩ := hE s _ ht
    exact ⟨g1, hs _ _ _ _ _ g2⟩
  · have : get s ((t, y) :: st.env) = get s st.env := by show (if s = t then _ else _) = _; rw [if_neg e]
    have hz' : get s ((t, y) :: st.env) = some z := hz
    rw [this] at hz'
    exact hE s z hz'
theorem to_refl (h : lo ≤ st.nx) : St.to lo st st := ⟨h, fun _ _ _ _ hs => hs⟩
theorem to_trans {st' st'' : St} (h1 : St.to lo st st') (h2 : St.to lo st' st'') : St.to lo st st'' := ⟨h2.1, fun F a w hF hs => h2.2 F a w hF (h1.2 F a w hF hs)⟩
/-- The end of a function that hands a row out. -/
def aRetF (P : Program) (rs : List ResultVar) (nx : Nat) (r : AV) (hp' : List (Nat × Blk)) (nx' : Nat) : Exit → St → Prop := fun e st => ∃ st', St.to nx st st' ∧ aRet P rs nx r hp' nx' e st'
theorem spec_of_awpF {f : FuncId} {fn : Func} {c : Code} {args : List AV} {hp : List (Nat × Blk)} {nx : Nat} {r : AV} {hp' : List (Nat × Blk)} {nx' : Nat} {rs : List ResultVar}
    (hf : P.funcs[f]? = some fn) (hname : (fn.name == "runtime.NumGoroutine") = false) (hb : fn.body = some c) (hn : fn.ntmps = n) (hrs : fn.results.toList = rs) (ha : args.length ≤ n)
    (h : awp P n nx c (aRetF P rs nx r hp' nx') ⟨initEnv 0 args, hp, nx⟩) : Spec P f args hp nx r hp' nx' := by
  refine ⟨enters_of hf hname hb, fun w S m vs hm hr => ?_⟩
  refine calls_of_wp hf hb ?_
  rw [hn]
  let F : Fr := ⟨w, Lv hp m, S, n, m, nx⟩
  have hm' : Mem F hp nx w S m := ⟨hm.os, hm.tape, hm.output, hm.size, hm.keep, hm.old, hm.agree, hm.nile, hm.lt, hm.live, hm.cells, hm.inj⟩
  have hs := sim_init F args hp nx vs w S m hm' hr ha
  refine wp_mono (awp_sound (F := F) rfl (Nat.le_refl _) c h hs) fun e a' w' ⟨st1, ⟨st', hto, hq⟩, hs1⟩ => ?_
  have hs' := hto.2 F a' w' (Nat.le_refl _) hs1
  have := ret_sound (F := F) (fn := fn) hrs rfl hq hs'
  cases e <;> first
    | exact hq.elim
    | (obtain ⟨h1, v, h2, v', S', m', h3, h4, h5⟩ := this
       exact ⟨h1, v, h2, v', S', m', h3, ⟨h4.os, h4.tape, h4.output, h4.size, h4.keep, h4.old, h4.agree, h4.nile, h4.lt, h4.live, h4.cells, h4.inj⟩, h5⟩)
/-- A call that is given blocks of ours. -/
theorem call_own {f : FuncId} {args : List AV} {hp hp1 hp1' : List (Nat × Blk)} {nx nx' : Nat} {K : AV → List (Nat × Blk) → Nat → Prop} {r : AV} (h : Spec P f args hp1 nx r hp1' nx') (hs : subH nx hp hp1) (hb : ∀ b k, get b hp1' = some k → b < nx → (get b hp1).isSome = true) (hk : K r (hp1' ++ frame hp1 hp) nx') : CallP P f args hp nx K :=
  ⟨args, hp1, r, hp1', nx', SubL.refl _, h, fun b k hg => (subH_spec hs b k hg).1, hb, hk⟩
/-- A call that is given blocks of ours and hands the same ones back. -/
theorem call_same {f : FuncId} {args : List AV} {hp hp1 hp1' : List (Nat × Blk)} {nx nx' : Nat} {K : AV → List (Nat × Blk) → Nat → Prop} {r : AV} (h : Spec P f args hp1 nx r hp1' nx') (hs : subH nx hp hp1) (he : hp1'.map Prod.fst = hp1.map Prod.fst) (hk : K r (hp1' ++ frame hp1 hp) nx') : CallP P f args hp nx K :=
  call_own h hs (fun b k hg _ => by
    have key : ∀ (l : List (Nat × Blk)), (get b l).isSome = true ↔ b ∈ l.map Prod.fst := by
      intro l
      induction l with
      | nil => simp [get]
      | cons x l ih =>
        obtain ⟨c, q⟩ := x
        show (if b = c then some q else get b l).isSome = true ↔ _
        by_cases e : b = c
        · rw [if_pos e]; simp [e]
        · rw [if_neg e, ih]; simp [e]
    rw [key, ← he, ← key, hg]; rfl) hk
theorem callH_own {f : FuncId} {args : List AV} {hp hp1 : List (Nat × Blk)} {nx : Nat} {K : AV → Prop} {r : AV} (h : Spec P f args hp1 nx r hp1 nx) (hs : subH nx hp hp1) (hk : K r) : CallH P f args hp nx K :=
  ⟨args, hp1, r, SubL.refl _, h, fun b k hg => (subH_spec hs b k hg).1, hk⟩
theorem neF {a b : Nat} (h : a ≠ b) : (a = b) = False := eq_false h
end
end Go.Proofs.Ytgggekjhfdkgkaa.Ab
