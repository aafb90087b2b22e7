/- Abstract runs, part 7: append. -/
import Derived.Test.YtgggekjhfdkgkaaAbF
namespace Go.Proofs.Ytgggekjhfdkgkaa.Ab
open Go Go.RowKit Go.Shelf
section
variable {P : Program} {w w' : World} {S S' : Nat → Prop} {m m' : Nat → Nat × Nat} {nx nx' : Nat} {F : Fr} {hp hp' : List (Nat × Blk)}

theorem Mem.regrow (h : Mem F hp nx w S m) (ty : TypeId) (sz cap g' : Nat) (cs : List AV) (cur : Array Value) (row : Option Nat) (hg : w.grownBy w' row)
    (hrow : ∀ g, row = some g → S g ∧ (F.S0 g ∨ F.w0.heap.size ≤ g) ∧ ∀ b k, get b hp = some k → (m b).1 ≠ g) (hat : row = some g' ∨ g' = w.heap.size)
    (hc : ∀ (j : Nat) (x : AV), cs[j]? = some x → ∃ v, cur[j]? = some v ∧ Rep w S m nx x v) (hs : sz ≠ 0 → cur.size = cap * sz ∧ cap ≤ maxLen)
    (hn : w'.heap[g']? = some (.cells cur ty (0, 0))) :
    Mem F ((nx, ⟨ty, sz, cs⟩) :: hp) (nx + 1) w' (fun i => S i ∨ i = g') (fun b => if b = nx then (g', cap) else m b) ∧ Carries w S m nx w' (fun i => S i ∨ i = g') (fun b => if b = nx then (g', cap) else m b) (nx + 1) := by
  have hlt : g' < w'.heap.size := (Array.getElem?_eq_some_iff.1 hn).1
  have hfree : ∀ b k, get b hp = some k → (m b).1 ≠ g' := fun b k hk => hat.elim (fun e => (hrow _ e).2.2 b k hk) (fun e => by have := h.lt _ (h.live b k hk).2.1; omega)
  have hblk : ∀ i, i < w.heap.size → ¬ S i → w'.heap[i]? = w.heap[i]? := fun i hi hS => hg.block i hi (fun e => hS ((hrow i e.symm).1))
  have hcar : Carries w S m nx w' (fun i => S i ∨ i = g') (fun b => if b = nx then (g', cap) else m b) (nx + 1) := fun x u hr =>
    hr.mono (fun i hi hS => ⟨hblk i hi hS, fun hh => hh.elim hS (fun e => hat.elim (fun er => hS (by rw [e]; exact (hrow _ er).1)) (fun er => by omega))⟩) (fun b hb => if_neg (by omega)) (by omega)
  have hold : ∀ b k, get b hp = some k → b ≠ nx ∧ (m b).1 < w.heap.size := fun b k hg => ⟨by have := (h.live b k hg).1; omega, h.lt _ (h.live b k hg).2.1⟩
  have hS0 : F.S0 g' ∨ F.w0.heap.size ≤ g' := hat.elim (fun e => (hrow _ e).2.1) (fun e => .inr (by have := h.size; omega))
  refine ⟨⟨hg.os.trans h.os, hg.tape.trans h.tape, hg.output.trans h.output, Nat.le_trans h.size hg.size, fun i hi hn => ?_, fun i hi => ?_, fun b hb => (if_neg (by have := h.nile; omega)).trans (h.agree b hb), by have := h.nile; omega, fun i hi => ?_, fun b k hg => ?_, fun b k hgb => ?_, fun b b' k k' hg hg' he => ?_⟩, hcar⟩
  · refine (hg.block i (Nat.lt_of_lt_of_le hi h.size) (fun e => ?_)).trans (h.keep i hi hn)
    rcases (hrow i e.symm).2.1 with h1 | h1
    · exact hn h1
    · omega
  · refine ⟨fun hh => hh.elim (h.old i hi).1 (fun e => ?_), fun hh h0 => .inl ((h.old i hi).2 hh h0)⟩
    subst e
    exact hat.elim (fun er => (h.old _ hi).1 (hrow _ er).1) (fun er => by have := h.size; omega)
  · exact hi.elim (fun hh => Nat.lt_of_lt_of_le (h.lt i hh) hg.size) (fun e => by omega)
  · unfold get at hg
    split at hg
    · rename_i e; subst e
      simp only [if_true, if_pos]
      exact ⟨by omega, by simp, hS0⟩
    · have hl := h.live b k hg
      rw [if_neg (hold b k hg).1]
      exact ⟨by omega, .inl hl.2.1, hl.2.2⟩
  · unfold get at hgb
    split at hgb
    · rename_i e; subst e
      injection hgb with hgb; subst hgb
      simp only [if_true, if_pos]
      exact ⟨cur, hn, fun j x hx => by obtain ⟨v, h1, h2⟩ := hc j x hx; exact ⟨v, h1, hcar _ _ h2⟩, hs⟩
    · rw [if_neg (hold b k hgb).1]
      obtain ⟨cur, h1, h2, h3⟩ := h.cells b k hgb
      exact ⟨cur, (hg.block _ (hold b k hgb).2 (fun e => (hrow _ e.symm).2.2 b k hgb rfl)).trans h1, fun j x hx => by obtain ⟨v, h1, h2⟩ := h2 j x hx; exact ⟨v, h1, hcar _ _ h2⟩, h3⟩
  · unfold get at hg hg'
    split at hg
    · rename_i e; subst e
      split at hg'
      · rename_i e; exact e.symm
      · rw [if_pos rfl, if_neg (hold b' k' hg').1] at he
        exact absurd he.symm (hfree b' k' hg')
    · split at hg'
      · rename_i e; subst e
        rw [if_pos rfl, if_neg (hold b k hg).1] at he
        exact absurd he (hfree b k hg)
      · rw [if_neg (hold b k hg).1, if_neg (hold b' k' hg').1] at he
        exact h.inj b b' k k' hg hg' he
theorem flatten_get (k : Nat) (hk : 0 < k) : ∀ (es : List (List AV)), (∀ e ∈ es, e.length = k) → ∀ j, es.flatten[j]? = (es[j / k]?).bind (·[j % k]?)
  | [], _, j => by simp
  | e :: es, h, j => by
    have he := h e (by simp)
    rw [List.flatten_cons]
    by_cases hj : j < k
    · rw [List.getElem?_append_left (by omega), Nat.div_eq_of_lt hj, Nat.mod_eq_of_lt hj]; rfl
    · have h1 : j / k = (j - k) / k + 1 := by rw [Nat.div_eq_sub_div hk (by omega)]
      have h2 : j % k = (j - k) % k := Nat.mod_eq_sub_mod (by omega)
      rw [List.getElem?_append_right (by omega), he, flatten_get k hk es (fun e' he' => h e' (by simp [he'])), h1, h2, List.getElem?_cons_succ]
theorem flatten_len (k : Nat) : ∀ (es : List (List AV)), (∀ e ∈ es, e.length = k) → es.flatten.length = es.length * k
  | [], _ => by simp
  | e :: es, h => by
    rw [List.flatten_cons, List.length_append, flatten_len k es (fun e' he' => h e' (by simp [he'])), h e (by simp), List.length_cons, Nat.add_mul]; omega

/-- What is appended, as it lies in memory: at an address, or nothing at all. -/
theorem aNew_sound (h : Mem F hp nx w S m) {k q : Nat} (hk : 0 < k) {x : AV} {v : Value} {new : List AV} (hx : Rep w S m nx x v) (hn : aNew k hp x = some (q, new)) :
    (q = 0 ∧ new = [] ∧ ∃ (a : Option Addr) (c : Nat), v = .slice a 0 c) ∨ ∃ (a : Addr) (c : Nat) (news : List Value), v = .slice (some a) q c ∧ news.length = q * k ∧ (∀ j u, news[j]? = some u → w.cell? (a.add j) = some u) ∧ (∀ u ∈ news, u.oneCell' = true) ∧ new.length = q * k ∧
      ∀ (j : Nat) (x : AV), new[j]? = some x → ∃ u, news[j]? = some u ∧ Rep w S m nx x u := by
  unfold aNew at hn
  split at hn
  · injection hn with hn; simp only [Prod.mk.injEq] at hn
    obtain ⟨rfl, rfl⟩ := hn
    cases hx; exact .inl ⟨rfl, rfl, _, _, rfl⟩
  · rename_i sz es
    split at hn
    · rename_i hsz
      subst hsz
      injection hn with hn; simp only [Prod.mk.injEq] at hn
      obtain ⟨rfl, rfl⟩ := hn
      cases hx with
      | sl0 a cap => exact .inl ⟨rfl, rfl, _, _, rfl⟩
      | sl g off cap val hg hS hz hc ho hr =>
        have hfl := flatten_len sz es hz
        refine .inr ⟨⟨g, off, none⟩, cap, (List.range (es.length * sz)).map (fun j => val (j / sz) (j % sz)), rfl, by simp, ?_, ?_, hfl, ?_⟩
        all_goals have hget : ∀ j, j < es.length * sz → ∃ e x, es[j / sz]? = some e ∧ e[j % sz]? = some x := fun j hj => by
                    have h1 : j / sz < es.length := Nat.div_lt_of_lt_mul (by rw [Nat.mul_comm]; exact hj)
                    have h2 : es[j / sz].length = sz := hz _ (List.getElem_mem h1)
                    have h3 : j % sz < es[j / sz].length := by rw [h2]; exact Nat.mod_lt _ hk
                    exact ⟨_, _, List.getElem?_eq_getElem h1, List.getElem?_eq_getElem h3⟩
        · intro j u hu
          rw [List.getElem?_map] at hu
          have hj : j < es.length * sz := by
            rcases Nat.lt_or_ge j (es.length * sz) with h1 | h1
            · exact h1
            · rw [List.getElem?_eq_none (by simpa using h1)] at hu; cases hu
          rw [List.getElem?_range hj] at hu
          injection hu with hu; subst hu
          obtain ⟨e, x, he, hx⟩ := hget j hj
          have := hc _ e _ x he hx
          rw [Addr.add_mid]
          rw [show off + j / sz * sz + j % sz = off + j by have := Nat.div_add_mod j sz; rw [Nat.mul_comm] at this; omega] at this
          exact this
        · intro u hu
          obtain ⟨j, hj⟩ := List.getElem?_of_mem hu
          rw [List.getElem?_map] at hj
          have hj' : j < es.length * sz := by
            rcases Nat.lt_or_ge j (es.length * sz) with h1 | h1
            · exact h1
            · rw [List.getElem?_eq_none (by simpa using h1)] at hj; cases hj
          rw [List.getElem?_range hj'] at hj
          injection hj with hj; subst hj
          obtain ⟨e, x, he, hx⟩ := hget j hj'
          exact ho _ e _ x he hx
        · intro j x hx
          have hj' : j < es.length * sz := by rw [← hfl]; exact (List.getElem?_eq_some_iff.1 hx).1
          rw [flatten_get sz hk es hz] at hx
          obtain ⟨e, he, hx⟩ := bind_some' hx
          refine ⟨val (j / sz) (j % sz), ?_, (hr _ e _ x he hx).up (Nat.zero_le _)⟩
          rw [List.getElem?_map, List.getElem?_range hj']; rfl
    · cases hn
  · rename_i b n
    split at hn
    · rename_i blk hb
      split at hn
      · rename_i hsz
        split at hn
        · rename_i hl
          split at hn
          · rename_i hall
            injection hn with hn; simp only [Prod.mk.injEq] at hn
            obtain ⟨rfl, rfl⟩ := hn
            obtain ⟨cur, hc, hr, hcap⟩ := h.cells b blk hb
            cases hx with
            | own _ _ hbn =>
              have hcs : blk.cs.length ≤ cur.size := by
                rcases Nat.eq_zero_or_pos blk.cs.length with h0 | h0
                · omega
                · obtain ⟨v, hv, _⟩ := hr (blk.cs.length - 1) _ (List.getElem?_eq_getElem (by omega))
                  have := (Array.getElem?_eq_some_iff.1 hv).1
                  omega
              refine .inr ⟨⟨(m b).1, 0, none⟩, (m b).2, cur.toList.take (n * k), rfl, by simp; omega, fun j u hu => ?_, fun u hu => ?_, hl, fun j x hx => ?_⟩
              · rw [List.getElem?_take] at hu
                split at hu
                · rw [Addr.add_mid, Nat.zero_add]; simp [World.cell?, hc]; simpa using hu
                · cases hu
              · obtain ⟨j, hj⟩ := List.getElem?_of_mem hu
                rw [List.getElem?_take] at hj
                split at hj
                · rename_i hjl
                  obtain ⟨u', h1, h2⟩ := hr j _ (List.getElem?_eq_getElem (by omega : j < blk.cs.length))
                  have : u' = u := by
                    have hj2 : cur[j]? = some u := by simpa using hj
                    rw [h1] at hj2; injection hj2
                  subst this
                  exact h2.oneC (List.all_eq_true.1 hall _ (List.getElem_mem _))
                · cases hj
              · obtain ⟨u, h1, h2⟩ := hr j x hx
                have hjl : j < n * k := by rw [← hl]; exact (List.getElem?_eq_some_iff.1 hx).1
                exact ⟨u, by rw [List.getElem?_take, if_pos hjl]; simpa using h1, h2⟩
          · cases hn
        · cases hn
      · cases hn
    · cases hn
  · cases hn

theorem aOld_sound (h : Mem F hp nx w S m) {e : TypeId} {k n : Nat} (hk : 0 < k) {x : AV} {v : Value} {old : List AV} (hx : Rep w S m nx x v) (hn : aOld e k hp x = some (n, old, hp')) :
    Mem F hp' nx w S m ∧ (∀ g, v.ownBlock = some g → S g ∧ (F.S0 g ∨ F.w0.heap.size ≤ g) ∧ ∀ b k, get b hp' = some k → (m b).1 ≠ g) ∧
    ∃ xs, w.ownsRow 0 e k v n xs ∧ old.length = n * k ∧ ∀ (j : Nat) (x : AV), old[j]? = some x → ∃ u, xs[j]? = some u ∧ Rep w S m nx x u := by
  unfold aOld at hn
  split at hn
  · injection hn with hn; simp only [Prod.mk.injEq] at hn
    obtain ⟨rfl, rfl, rfl⟩ := hn
    cases hx
    exact ⟨h, ⟨(fun g hg => by cases hg), [], World.ownsRow_nil w 0 e k, by simp, (fun j x hx => by simp at hx)⟩⟩
  · rename_i b n'
    split at hn
    · rename_i q hq
      split at hn
      · rename_i hh
        obtain ⟨hty, hsz⟩ := hh
        split at hn
        · rename_i hl
          injection hn with hn; simp only [Prod.mk.injEq] at hn
          obtain ⟨rfl, rfl, rfl⟩ := hn
          obtain ⟨cur, hc, hr, hcap⟩ := h.cells b q hq
          obtain ⟨hcs, hcm⟩ := hcap (by omega)
          rw [hsz] at hcs
          have hle : q.cs.length ≤ cur.size := by
            rcases Nat.eq_zero_or_pos q.cs.length with h0 | h0
            · omega
            · obtain ⟨v, hv, _⟩ := hr (q.cs.length - 1) _ (List.getElem?_eq_getElem (by omega))
              have := (Array.getElem?_eq_some_iff.1 hv).1
              omega
          have hncap : n' ≤ (m b).2 := by
            rw [hl, hcs] at hle
            exact Nat.le_of_mul_le_mul_right hle hk
          have hl2 := h.live b q hq
          cases hx with
          | own _ _ hbn =>
            refine ⟨h.fewer fun c k' hg => ?_, fun g hg => ?_, cur.toList.take (n' * k), ⟨by simp; omega, .inr ⟨(m b).1, (m b).2, cur, rfl, Nat.zero_le _, by rw [← hty]; exact hc, hncap, hcm, hcs, rfl⟩⟩, hl, fun j x hx => ?_⟩
            · rw [get_delB] at hg
              split at hg
              · cases hg
              · exact hg
            · injection hg with hg
              simp only at hg; subst hg
              refine ⟨hl2.2.1, hl2.2.2, fun c k' hg e => ?_⟩
              rw [get_delB] at hg
              split at hg
              · cases hg
              · rename_i hne
                exact hne (h.inj c b k' q hg hq e)
            · obtain ⟨u, h1, h2⟩ := hr j x hx
              have hjl : j < n' * k := by rw [← hl]; exact (List.getElem?_eq_some_iff.1 hx).1
              exact ⟨u, by rw [List.getElem?_take, if_pos hjl]; simpa using h1, h2⟩
        · cases hn
      · cases hn
    · cases hn
  · cases hn
theorem run_append_none (P : Program) (w : World) (t ty e : TypeId) (k : Nat) (hu : P.underlying t = some (.slice e)) (hk : sizeT P e = some k) (g : Addr) (n cap c : Nat) (h : n ≤ cap) (a : Option Addr) :
    (Builtin.append_ #[t, t] ty #[.slice (some g) n cap, .slice a 0 c]).run P w = .ok (.slice (some g) n cap) w := by
  unfold Builtin.append_
  cases a <;> simp [run_underlying hu, run_sizeT hk, Builtin.lenOf, h, Builtin.firstCells, storeCells, loadCells, loadCellsFrom]
theorem aAppend_sound (h : Mem F hp nx w S m) {t ty : TypeId} {x y r : AV} {u v : Value} (hx : Rep w S m nx x u) (hy : Rep w S m nx y v) (hs : aAppend P t hp nx x y = some (r, hp', nx')) :
    ∃ z w' S' m', (Builtin.append_ #[t, t] ty #[u, v]).run P w = .ok z w' ∧ Mem F hp' nx' w' S' m' ∧ Carries w S m nx w' S' m' nx' ∧ Rep w' S' m' nx' r z := by
  unfold aAppend at hs
  split at hs
  · rename_i e hu
    split at hs
    · rename_i k by_ z hk hby hz
      split at hs
      · rename_i n old hp1 q new hold hnew
        split at hs
        · rename_i hk0
          split at hs
          · rename_i hh
            injection hs with hs
            simp only [Prod.mk.injEq] at hs
            obtain ⟨rfl, rfl, rfl⟩ := hs
            obtain ⟨hbb, h60, hpos⟩ := hh
            obtain ⟨hk1, hzl⟩ := hk0
            obtain ⟨hm1, hrow, xs, hown, holl, holr⟩ := aOld_sound h hk1 hx hold
            have hinfo : ∃ i zv, P.info? e = some i ∧ i.zero = some zv ∧ i.size = k ∧ i.bytes = by_ ∧ zv.cells.size = k := by
              unfold sizeT at hk; unfold bytesT at hby; unfold zeroT at hz
              cases hi : P.info? e with
              | none => rw [hi] at hk; cases hk
              | some i =>
                rw [hi] at hk hby hz
                simp only [Option.map_some, Option.some.injEq, Option.bind_some] at hk hby hz
                cases hzz : i.zero with
                | none => rw [hzz] at hz; cases hz
                | some zv =>
                  rw [hzz] at hz; simp only [Option.map_some, Option.some.injEq] at hz
                  exact ⟨i, zv, rfl, hzz, hk, hby, by rw [← hz] at hzl; simpa using hzl⟩
            obtain ⟨i, zv, hi, hzz, hik, hib, hzs⟩ := hinfo
            have hm60 : n + q ≤ maxLen := by simp only [maxLen]; omega
            -- what the result's row gives
            have fin : ∀ (z : Value) (w' : World) (news : List Value), (Builtin.append_ #[t, t] ty #[u, v]).run P w = .ok z w' → w'.ownsRow 0 e k z (n + q) (xs ++ news) → w.grownBy w' u.ownBlock →
                (z.ownBlock = u.ownBlock ∨ z.ownBlock = some w.heap.size) → news.length = q * k → (∀ (j : Nat) (x : AV), new[j]? = some x → ∃ u, news[j]? = some u ∧ Rep w S m nx x u) → (0 < n + q ∨ z ≠ .slice none 0 0) →
                ∃ z w' S' m', (Builtin.append_ #[t, t] ty #[u, v]).run P w = .ok z w' ∧ Mem F ((nx, ⟨e, k, old ++ new⟩) :: hp1) (nx + 1) w' S' m' ∧ Carries w S m nx w' S' m' (nx + 1) ∧ Rep w' S' m' (nx + 1) (.own nx (n + q)) z := by
              intro z w' news hrun hown' hgrow hat hnl hnr hz0
              obtain ⟨hxl, hrest⟩ := hown'
              rcases hrest with ⟨hz1, h0⟩ | ⟨g, cap, cur, rfl, _, hg, hnc, hcm, hcs, htake⟩
              · exact hz0.elim (fun h => absurd h (by omega)) (fun h => absurd hz1 h)
              · have hat' : u.ownBlock = some g ∨ g = w.heap.size := hat.elim (fun e => .inl e.symm) (fun e => .inr (by injection e))
                obtain ⟨h1, h2⟩ := hm1.regrow e k cap g (old ++ new) cur u.ownBlock hgrow hrow hat' (fun j x hx => by
                  have hcj : ∀ (j : Nat) (b : Value), (xs ++ news)[j]? = some b → cur[j]? = some b := fun j b hb => by
                    rw [← htake, List.getElem?_take] at hb
                    split at hb
                    · simpa using hb
                    · cases hb
                  have hxsl : xs.length = old.length := by rw [hown.1, holl]
                  by_cases hj : j < old.length
                  · rw [List.getElem?_append_left hj] at hx
                    obtain ⟨b, h1, h2⟩ := holr j x hx
                    exact ⟨b, hcj j b (by rw [List.getElem?_append_left (by omega)]; exact h1), h2⟩
                  · rw [List.getElem?_append_right (by omega)] at hx
                    obtain ⟨b, h1, h2⟩ := hnr _ x hx
                    exact ⟨b, hcj j b (by rw [List.getElem?_append_right (by omega), hxsl]; exact h1), h2⟩) (fun _ => ⟨hcs, hcm⟩) hg
                refine ⟨_, w', _, _, hrun, h1, h2, ?_⟩
                have := Rep.own (w := w') (S := fun i => S i ∨ i = g) (m := fun b => if b = nx then (g, cap) else m b) (nx := nx + 1) nx (n + q) (by omega)
                simpa using this
            have hnil : n + q = 0 → ∃ g cap, u = .slice (some g) 0 cap := fun h0 => by
              have hio := hpos.elim (fun h => absurd h (by omega)) id
              cases hx with
              | own b n' hb =>
                have hold' : (match get b hp with
                  | some q => if q.ty = e ∧ q.sz = k then (if q.cs.length = n' * k then some (n', q.cs, delB b hp) else none) else none
                  | none => none) = some (n, old, hp1) := hold
                split at hold'
                · split at hold'
                  · split at hold'
                    · injection hold' with hold'; simp only [Prod.mk.injEq] at hold'
                      exact ⟨_, _, by rw [show n' = 0 by omega]⟩
                    · cases hold'
                  · cases hold'
                · cases hold'
              | _ => simp [AV.isOwn] at hio
            by_cases hz0 : n + q = 0
            · obtain ⟨g, cap, rfl⟩ := hnil hz0
              have hq0 : q = 0 := by omega
              have hv : ∃ a c, v = .slice a 0 c := by
                rcases aNew_sound h hk1 hy hnew with ⟨_, _, a, c, e⟩ | ⟨a, c, news, e, _⟩
                · exact ⟨a, c, e⟩
                · exact ⟨some a, c, by rw [e, hq0]⟩
              have hnew0 : new = [] := by
                rcases aNew_sound h hk1 hy hnew with ⟨_, e, _⟩ | ⟨a, c, news, e, e1, _, _, e2, _⟩
                · exact e
                · exact List.eq_nil_of_length_eq_zero (by rw [e2, hq0, Nat.zero_mul])
              obtain ⟨a, c, rfl⟩ := hv
              refine fin _ w [] (run_append_none P w t ty e k hu hk _ 0 cap c (Nat.zero_le _) a) ?_ ⟨rfl, rfl, rfl, Nat.le_refl _, fun _ _ _ => rfl⟩ (.inl rfl) (by simp [hq0]) (fun j x hx => by rw [hnew0] at hx; simp at hx) (.inr (by simp))
              have hn0 : n = 0 := by omega
              subst hn0; subst hq0; simpa using hown
            have hpos : 0 < n + q := by omega
            rcases aNew_sound h hk1 hy hnew with ⟨rfl, rfl, a, c, rfl⟩ | ⟨a, c, news, rfl, hnl, hnw, hn1, hnl2, hnr⟩
            · cases a with
              | some a =>
                obtain ⟨z, w', hrun, ho', hgr, _, hat⟩ := run_append_own_at (P := P) w 0 t ty e i zv k by_ hu hi hzz hik hib hzs hk1 u n xs hown a 0 c [] (by simp) (fun j u hj => by simp at hj) (fun u hu => by simp at hu) hm60 hbb (Nat.zero_le _)
                exact fin z w' [] hrun ho' hgr hat (by simp) (fun j x hx => by simp at hx) (.inl hpos)
              | none =>
                obtain ⟨hxl, hrest⟩ := id hown
                rcases hrest with ⟨_, h0⟩ | ⟨g, cap, cur, rfl, _, hg, hnc, hcm, hcs, htake⟩
                · omega
                · exact fin _ w [] (run_append_none P w t ty e k hu hk _ n cap c hnc none) (by simpa using hown) ⟨rfl, rfl, rfl, Nat.le_refl _, fun _ _ _ => rfl⟩ (.inl rfl) (by simp) (fun j x hx => by simp at hx) (.inl hpos)
            · obtain ⟨z, w', hrun, ho', hgr, _, hat⟩ := run_append_own_at (P := P) w 0 t ty e i zv k by_ hu hi hzz hik hib hzs hk1 u n xs hown a q c news hnl hnw hn1 hm60 hbb (Nat.zero_le _)
              exact fin z w' news hrun ho' hgr hat hnl hnr (.inl hpos)
          · cases hs
        · cases hs
      · cases hs
    · cases hs
  · cases hs
/-- What an operation that makes or writes own blocks does. -/
theorem aHeap_sound (h : Mem F hp nx w S m) {ρ : Operand → Option AV} {ev : Operand → Value} (hρ : ∀ o x, ρ o = some x → Rep w S m nx x (ev o)) (o : Oper) {r : AV} (hs : aHeap P ρ hp nx o.op = some (r, hp', nx')) :
    ∃ z w' S' m', ((execOp ev o).run P w = .ok (.value z) w' ∨ (execOp ev o).run P w = .ok .skip w' ∧ z = undef) ∧ Mem F hp' nx' w' S' m' ∧ Carries w S m nx w' S' m' nx' ∧ Rep w' S' m' nx' r z := by
  unfold aHeap at hs
  split at hs
  · rename_i t e
    obtain ⟨z, hz, hs⟩ := map_some' hs
    simp only [Prod.mk.injEq] at hs
    obtain ⟨rfl, rfl, rfl⟩ := hs
    obtain ⟨zv, hr, rfl⟩ := run_zeroT hz w
    obtain ⟨h1, h2⟩ := h.push (w' := w.alloc (.cells zv.cells t)) t 0 0 (zv.cells.toList.map AV.s) zv.cells (fun j x hx => by
      rw [List.getElem?_map] at hx
      obtain ⟨b, hb, rfl⟩ := map_some' hx
      exact ⟨b, by simpa using hb, .s b⟩) (fun hh => absurd rfl hh) ((Below.refl _ _).alloc (Nat.le_refl _) _) (heap_alloc_new w _)
    refine ⟨.pointer (some ⟨w.heap.size, 0, none⟩), _, _, _, .inl ?_, h1, h2, ?_⟩
    · simp [execOp, e, Instr.alloc, hr, newVar, newRow, newObj, Sem.run]
    · have := Rep.ptr (w := w.alloc (.cells zv.cells t)) (S := fun i => S i ∨ i = w.heap.size) (m := fun b => if b = nx then (w.heap.size, 0) else m b) (nx := nx + 1) nx 0 (by omega)
      simpa using this
  · rename_i t x v e
    split at hs
    · rename_i x' v' hx hv
      obtain ⟨hp1, hst, hs⟩ := map_some' hs
      simp only [Prod.mk.injEq] at hs
      obtain ⟨rfl, rfl, rfl⟩ := hs
      obtain ⟨w', hr, h1, h2⟩ := aStore_sound h (hρ _ _ hx) (hρ _ _ hv) hst
      exact ⟨undef, w', S, m, .inr ⟨by simp [execOp, e, hr], rfl⟩, h1, h2, .s _⟩
    · cases hs
  · rename_i t l c e
    split at hs
    · rename_i l' c' hl hc
      obtain ⟨z, w', S', m', hr, h1, h2, h3⟩ := aMake_sound h (hρ _ _ hl) (hρ _ _ hc) hs
      exact ⟨z, w', S', m', .inl (by simp [execOp, e, hr]), h1, h2, h3⟩
    · cases hs
  · rename_i t n parts e
    split at hs
    · rename_i hn0 hps
      split at hs
      · rename_i el hu
        split at hs
        · rename_i k hk
          split at hs
          · rename_i hk0
            injection hs with hs
            simp only [Prod.mk.injEq] at hs
            obtain ⟨rfl, rfl, rfl⟩ := hs
            obtain ⟨h1, h2⟩ := h.push (w' := w.alloc (.cells #[] el)) el k 0 [] #[] (fun j x hx => by simp at hx) (fun _ => ⟨by simp, by simp only [maxLen]; omega⟩) ((Below.refl _ _).alloc (Nat.le_refl _) _) (heap_alloc_new w _)
            have hpe : parts = #[] := by rw [← Array.toArray_toList (xs := parts), hps]
            subst hpe
            refine ⟨.slice (some ⟨w.heap.size, 0, none⟩) 0 0, _, _, _, .inl ?_, h1, h2, ?_⟩
            · simp [execOp, e, Instr.buildSlice, run_underlying hu, run_sizeT hk, Instr.fill, newRow, newObj, Sem.run]
              rw [show Array.map (fun _ : Nat => (default : Value)) (Array.range 0) = #[] from Array.size_eq_zero_iff.1 (by simp)]
            · have := Rep.own (w := w.alloc (.cells #[] el)) (S := fun i => S i ∨ i = w.heap.size) (m := fun b => if b = nx then (w.heap.size, 0) else m b) (nx := nx + 1) nx 0 (by omega)
              simpa using this
          · cases hs
        · cases hs
      · cases hs
    · cases hs
  · rename_i c e
    split at hs
    · rename_i hcal
      split at hs
      · rename_i s x t t' hargs htys
        split at hs
        · rename_i htt
          subst htt
          split at hs
          · rename_i s' x' hs' hx'
            obtain ⟨z, w', S', m', hr, h1, h2, h3⟩ := aAppend_sound (ty := o.type) h (hρ _ _ hs') (hρ _ _ hx') hs
            refine ⟨z, w', S', m', .inl ?_, h1, h2, h3⟩
            obtain ⟨cal, args, ts⟩ := c
            obtain ⟨args⟩ := args
            obtain ⟨ts⟩ := ts
            simp only at hcal hargs htys
            subst hcal; subst hargs; subst htys
            simp [execOp, e, resolve, invoke, builtin, hr]
          · cases hs
        · cases hs
      · cases hs
    · cases hs
  · cases hs
end
end Go.Proofs.Ytgggekjhfdkgkaa.Ab
