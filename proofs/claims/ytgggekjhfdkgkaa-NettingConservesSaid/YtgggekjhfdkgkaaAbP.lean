/- Abstract runs: keys of own blocks, renamed. -/
import Derived.Test.YtgggekjhfdkgkaaAbL
namespace Go.Proofs.Ytgggekjhfdkgkaa.Ab
open Go Go.RowKit Go.Shelf

/-- A value under other keys. -/
def AV.ren (σ : Nat → Nat) : Nat → AV → AV
  | _, .own b n => .own (σ b) n
  | _, .ptr b o => .ptr (σ b) o
  | d + 1, .agg cs => .agg (cs.map (AV.ren σ d))
  | d + 1, .tup cs => .tup (cs.map (AV.ren σ d))
  | d + 1, .fn f cs => .fn f (cs.map (AV.ren σ d))
  | _, x => x
def Blk.ren (σ : Nat → Nat) (k : Blk) : Blk := ⟨k.ty, k.sz, k.cs.map (AV.ren σ 4)⟩
/-- A block whose cells bear no keys is left as it is. -/
def Blk.rn (σ : Nat → Nat) : Bool → Blk → Blk
  | true, k => k
  | false, k => k.ren σ
def renH (σ : Nat → Nat) (pk : List Nat) : List (Nat × Blk) → List (Nat × Blk)
  | [] => []
  | (b, k) :: l => (σ b, k.rn σ (pk.contains b)) :: renH σ pk l
/-- All keys in blocks are below a bound; some blocks bear none. -/
def hpOk (n : Nat) (pk : List Nat) : List (Nat × Blk) → Prop
  | [] => True
  | (b, k) :: l => (b < n ∧ k.cs.all (AV.keyed (if pk.contains b = true then 0 else n) 4) = true) ∧ hpOk n pk l
theorem hpOk_get {n : Nat} {pk : List Nat} {b : Nat} {k : Blk} : ∀ {l : List (Nat × Blk)}, hpOk n pk l → get b l = some k → b < n ∧ k.cs.all (AV.keyed (if pk.contains b = true then 0 else n) 4) = true
  | [], _, h => by cases h
  | (c, q) :: l, hs, h => by
    have h' : (if b = c then some q else get b l) = some k := h
    split at h'
    · rename_i e; subst e; injection h' with h'; subst h'; exact hs.1
    · exact hpOk_get hs.2 h'
theorem get_mem {α : Type} {b : Nat} {k : α} : ∀ {l : List (Nat × α)}, get b l = some k → b ∈ l.map Prod.fst
  | [], h => by cases h
  | (c, q) :: l, h => by
    have h' : (if b = c then some q else get b l) = some k := h
    split at h'
    · rename_i e; subst e; simp
    · simp [get_mem h']
theorem get_renH {σ : Nat → Nat} {pk : List Nat} {b : Nat} : ∀ {l : List (Nat × Blk)}, (∀ c ∈ l.map Prod.fst, σ c = σ b → c = b) → get (σ b) (renH σ pk l) = (get b l).map (Blk.rn σ (pk.contains b))
  | [], _ => rfl
  | (c, q) :: l, h => by
    have ih := get_renH (σ := σ) (pk := pk) (b := b) (l := l) (fun c hc => h c (by simp at hc ⊢; exact .inr hc))
    show (if σ b = σ c then some (q.rn σ (pk.contains c)) else get (σ b) (renH σ pk l)) = ((if b = c then some q else get b l).map (Blk.rn σ (pk.contains b)))
    by_cases e : b = c
    · subst e; simp
    · rw [if_neg e, if_neg (fun e' => e (h c (by simp) e'.symm).symm), ih]
theorem get_renH_some {σ : Nat → Nat} {pk : List Nat} {b : Nat} {k : Blk} : ∀ {l : List (Nat × Blk)}, get b (renH σ pk l) = some k → ∃ c ∈ l.map Prod.fst, σ c = b
  | [], h => by cases h
  | (c, q) :: l, h => by
    have h' : (if b = σ c then some (q.rn σ (pk.contains c)) else get b (renH σ pk l)) = some k := h
    split at h'
    · rename_i e; exact ⟨c, by simp, e.symm⟩
    · obtain ⟨c', h1, h2⟩ := get_renH_some h'
      exact ⟨c', by simp at h1 ⊢; exact .inr h1, h2⟩
section
variable {P : Program} {w w' : World} {S : Nat → Prop} {m m' : Nat → Nat × Nat} {σ : Nat → Nat}
theorem Rep.nokey {x : AV} {v : Value} (h : Rep w S m 0 x v) : Rep w S m' 0 x v := h.mono (fun _ _ h => ⟨rfl, h⟩) (fun b hb => absurd hb (by omega)) (Nat.le_refl _)
theorem Rep.ren {nx n nx' : Nat} (hm : ∀ c, c < n → m' (σ c) = m c ∧ σ c < nx') {x : AV} {v : Value} (h : Rep w S m nx x v) : ∀ d, AV.keyed n d x = true → Rep w S m' nx' (x.ren σ d) v := by
  have key : ∀ (cs : List AV) (d : Nat), cs.all (AV.keyed n d) = true → ∀ (j : Nat) (a : AV), cs[j]? = some a → AV.keyed n d a = true := fun cs d hd j a ha =>
    List.all_eq_true.1 hd a (List.mem_of_getElem? ha)
  induction h with
  | s v => intro d _; cases d <;> exact .s v
  | sl0 a cap => intro d _; cases d <;> exact .sl0 a cap
  | sl g off cap val hg hS hz hc ho h ih => intro d _; cases d <;> exact .sl g off cap val hg hS hz hc ho (fun i e j a h1 h2 => (h i e j a h1 h2).nokey)
  | ip g off val hg hS hc h ih => intro d _; cases d <;> exact .ip g off val hg hS hc (fun j a h1 => (h j a h1).nokey)
  | own b n hb =>
    intro d hd
    have hb' := hm b (by cases d <;> simpa [AV.keyed] using hd)
    rw [← hb'.1]
    cases d <;> exact .own _ _ hb'.2
  | ptr b n hb =>
    intro d hd
    have hb' := hm b (by cases d <;> simpa [AV.keyed] using hd)
    rw [← hb'.1]
    cases d <;> exact .ptr _ _ hb'.2
  | agg vs hl h ih =>
    intro d hd
    cases d with
    | zero => simp [AV.keyed] at hd
    | succ d =>
      refine .agg vs (by simpa using hl) fun j a b ha hb => ?_
      rw [List.getElem?_map] at ha
      obtain ⟨a', ha', e⟩ := map_some' ha
      subst e
      exact ih j a' b ha' hb d (key _ d (by simpa [AV.keyed] using hd) j a' ha')
  | tup vs hl h ih =>
    intro d hd
    cases d with
    | zero => simp [AV.keyed] at hd
    | succ d =>
      refine .tup vs (by simpa using hl) fun j a b ha hb => ?_
      rw [List.getElem?_map] at ha
      obtain ⟨a', ha', e⟩ := map_some' ha
      subst e
      exact ih j a' b ha' hb d (key _ d (by simpa [AV.keyed] using hd) j a' ha')
  | fn vs hl h ih =>
    intro d hd
    cases d with
    | zero => simp [AV.keyed] at hd
    | succ d =>
      refine .fn vs (by simpa using hl) fun j a b ha hb => ?_
      rw [List.getElem?_map] at ha
      obtain ⟨a', ha', e⟩ := map_some' ha
      subst e
      exact ih j a' b ha' hb d (key _ d (by simpa [AV.keyed] using hd) j a' ha')
theorem Rep.unren {nx n : Nat} : ∀ (d : Nat) (x : AV) {v : Value}, Rep w S m nx (x.ren σ d) v → AV.keyed n d x = true → Rep w S (fun c => m (σ c)) n x v := by
  have own : ∀ (b k : Nat) {v : Value}, b < n → Rep w S m nx (.own (σ b) k) v → Rep w S (fun c => m (σ c)) n (.own b k) v := fun b k v hb h => by
    cases h with
    | own _ _ h => exact Rep.own (m := fun c => m (σ c)) b k hb
  have ptr : ∀ (b k : Nat) {v : Value}, b < n → Rep w S m nx (.ptr (σ b) k) v → Rep w S (fun c => m (σ c)) n (.ptr b k) v := fun b k v hb h => by
    cases h with
    | ptr _ _ h => exact Rep.ptr (m := fun c => m (σ c)) b k hb
  have same : ∀ (x : AV) {v : Value}, (∀ b k, x ≠ .own b k) → (∀ b k, x ≠ .ptr b k) → (∀ cs, x ≠ .agg cs) → (∀ cs, x ≠ .tup cs) → (∀ f cs, x ≠ .fn f cs) → Rep w S m nx x v → Rep w S (fun c => m (σ c)) n x v := fun x v h1 h2 h3 h4 h5 h => by
    cases h with
    | s v => exact .s v
    | sl0 a c => exact .sl0 a c
    | sl g off cap val hg hS hz hc ho h => exact .sl g off cap val hg hS hz hc ho (fun i e j a h1 h2 => (h i e j a h1 h2).nokey)
    | ip g off val hg hS hc h => exact .ip g off val hg hS hc (fun j a h1 => (h j a h1).nokey)
    | own b k hb => exact absurd rfl (h1 _ _)
    | ptr b k hb => exact absurd rfl (h2 _ _)
    | agg vs hl hr => exact absurd rfl (h3 _)
    | tup vs hl hr => exact absurd rfl (h4 _)
    | fn vs hl hr => exact absurd rfl (h5 _ _)
  intro d
  induction d with
  | zero =>
    intro x v h hk
    cases x with
    | own b k => exact own b k (by simpa [AV.keyed] using hk) h
    | ptr b k => exact ptr b k (by simpa [AV.keyed] using hk) h
    | agg cs => simp [AV.keyed] at hk
    | tup cs => simp [AV.keyed] at hk
    | fn f cs => simp [AV.keyed] at hk
    | _ => exact same _ (fun _ _ e => by cases e) (fun _ _ e => by cases e) (fun _ e => by cases e) (fun _ e => by cases e) (fun _ _ e => by cases e) h
  | succ d ih =>
    intro x v h hk
    have part : ∀ (cs : List AV) (vs : Array Value), cs.all (AV.keyed n d) = true → (∀ (j : Nat) (a : AV) (b : Value), (cs.map (AV.ren σ d))[j]? = some a → vs[j]? = some b → Rep w S m nx a b) →
        ∀ (j : Nat) (a : AV) (b : Value), cs[j]? = some a → vs[j]? = some b → Rep w S (fun c => m (σ c)) n a b := fun cs vs hk hr j a b ha hb =>
      ih a (hr j _ b (by rw [List.getElem?_map, ha]; rfl) hb) (List.all_eq_true.1 hk a (List.mem_of_getElem? ha))
    cases x with
    | own b k => exact own b k (by simpa [AV.keyed] using hk) h
    | ptr b k => exact ptr b k (by simpa [AV.keyed] using hk) h
    | agg cs =>
      cases h with
      | agg vs hl hr => exact .agg vs (by simpa using hl) (part cs vs (by simpa [AV.keyed] using hk) hr)
    | tup cs =>
      cases h with
      | tup vs hl hr => exact .tup vs (by simpa using hl) (part cs vs (by simpa [AV.keyed] using hk) hr)
    | fn f cs =>
      cases h with
      | fn vs hl hr => exact .fn vs (by simpa using hl) (part cs vs (by simpa [AV.keyed] using hk) hr)
    | _ => exact same _ (fun _ _ e => by cases e) (fun _ _ e => by cases e) (fun _ e => by cases e) (fun _ e => by cases e) (fun _ _ e => by cases e) h
/-- Cells that stand for others, under other keys. -/
def CellsTo (σ : Nat → Nat) (n : Nat) (cs0 cs : List AV) : Prop := ∀ (j : Nat) (x : AV), cs[j]? = some x → ∃ y, cs0[j]? = some y ∧ (∀ w S m nx v, Rep w S m nx y v → Rep w S (fun c => m (σ c)) n x v)
theorem CellsTo.plain {n : Nat} {cs0 cs : List AV} (h : cs0 = cs) (hk : cs.all (AV.keyed 0 4) = true) : CellsTo σ n cs0 cs := fun j x hx => by
  subst h
  exact ⟨x, hx, fun w S m nx v hr => ((hr.lower 4 (List.all_eq_true.1 hk x (List.mem_of_getElem? hx))).nokey (m' := fun c => m (σ c))).up (Nat.zero_le _)⟩
theorem CellsTo.ren {n : Nat} {cs0 cs : List AV} (h : cs0 = cs.map (AV.ren σ 4)) (hk : cs.all (AV.keyed n 4) = true) : CellsTo σ n cs0 cs := fun j x hx => by
  subst h
  exact ⟨x.ren σ 4, by rw [List.getElem?_map, hx]; rfl, fun w S m nx v hr => hr.unren 4 x (List.all_eq_true.1 hk x (List.mem_of_getElem? hx))⟩
/-- The blocks in memory, under the keys that they had before. -/
theorem Mem.unren {F F' : Fr} {hp hp' : List (Nat × Blk)} {nx n : Nat} (h : Mem F hp nx w S m) (hw : F'.w0 = F.w0) (hS0 : ∀ i, F.S0 i → F'.S0 i) (hSi : F'.Si = F.Si)
    (hl : ∀ b k, get b hp' = some k → ∃ k0, get (σ b) hp = some k0 ∧ k0.ty = k.ty ∧ k0.sz = k.sz ∧ CellsTo σ n k0.cs k.cs ∧ b < n ∧ (F'.S0 (m (σ b)).1 ∨ F.w0.heap.size ≤ (m (σ b)).1)) (hinj : ∀ b b', b ∈ hp'.map Prod.fst → b' ∈ hp'.map Prod.fst → σ b = σ b' → b = b')
    (hag : ∀ b, b < F'.ni → m (σ b) = F'.mi b) (hni : F'.ni ≤ n) (hold : ∀ i, i < F.w0.heap.size → F.Si i → ¬ F'.S0 i → S i) (hkeep : ∀ i, i < F.w0.heap.size → ¬ F'.S0 i → w.heap[i]? = F.w0.heap[i]?) : Mem F' hp' n w S (fun c => m (σ c)) := by
  refine ⟨by rw [hw]; exact h.os, by rw [hw]; exact h.tape, by rw [hw]; exact h.output, by rw [hw]; exact h.size, fun i hi hn => by rw [hw]; exact hkeep i (by rw [← hw]; exact hi) hn, fun i hi => ⟨fun hs => by rw [hSi]; exact (h.old i (by rw [← hw]; exact hi)).1 hs, fun h1 h2 => hold i (by rw [← hw]; exact hi) (by rw [← hSi]; exact h1) h2⟩,
    hag, hni, h.lt, fun b k hg => ?_, fun b k hg => ?_, fun b b' k k' hg hg' he => ?_⟩
  · obtain ⟨k0, h1, _, _, _, h2, h4⟩ := hl b k hg
    exact ⟨h2, (h.live _ _ h1).2.1, by rw [hw]; exact h4⟩
  · obtain ⟨k0, h1, ht, hz, h3, _⟩ := hl b k hg
    obtain ⟨cur, c1, c2, c3⟩ := h.cells _ _ h1
    refine ⟨cur, by rw [← ht]; exact c1, fun j x hx => ?_, by rw [← hz]; exact c3⟩
    obtain ⟨y, hy, hr⟩ := h3 j x hx
    obtain ⟨v, y1, y2⟩ := c2 j y hy
    exact ⟨v, y1, hr _ _ _ _ _ y2⟩
  · obtain ⟨k0, h1, _⟩ := hl b k hg
    obtain ⟨k0', h1', _⟩ := hl b' k' hg'
    exact hinj b b' (get_mem hg) (get_mem hg') (h.inj _ _ _ _ h1 h1' he)
/-- The key that a call's own key stands for: those that it was given, and new ones. -/
def sg (ks : List Nat) (nx c : Nat) : Nat := match ks[c]? with
  | some k => k
  | none => nx + (c - ks.length)
theorem sg_lt {ks : List Nat} {nx c : Nat} (h : c < ks.length) : sg ks nx c = ks[c] := by simp [sg, h]
theorem sg_ge {ks : List Nat} {nx c : Nat} (h : ks.length ≤ c) : sg ks nx c = nx + (c - ks.length) := by simp [sg, h]
theorem sg_inj {ks : List Nat} {nx : Nat} (hks : ∀ k ∈ ks, k < nx) (hn : ks.Nodup) {c c' : Nat} (h : sg ks nx c = sg ks nx c') : c = c' := by
  rcases Nat.lt_or_ge c ks.length with h1 | h1 <;> rcases Nat.lt_or_ge c' ks.length with h2 | h2
  · rw [sg_lt h1, sg_lt h2] at h
    exact (List.getElem_inj hn).1 h
  · rw [sg_lt h1, sg_ge h2] at h
    have := hks _ (List.getElem_mem h1); omega
  · rw [sg_ge h1, sg_lt h2] at h
    have := hks _ (List.getElem_mem h2); omega
  · rw [sg_ge h1, sg_ge h2] at h; omega
theorem keyed_mono {n n' : Nat} (h : n ≤ n') : ∀ (d : Nat) (x : AV), AV.keyed n d x = true → AV.keyed n' d x = true := by
  intro d
  induction d with
  | zero => intro x hx; cases x <;> simp [AV.keyed] at hx ⊢ <;> omega
  | succ d ih =>
    intro x hx
    cases x <;> simp [AV.keyed] at hx ⊢ <;> first
      | omega
      | exact fun a ha => ih a (hx a ha)
/-- A contract under other keys. -/
theorem spec_ren {f : FuncId} {args : List AV} {hp hp' : List (Nat × Blk)} {r : AV} {n' : Nat} (ks pk : List Nat) (nx : Nat) (h : Spec P f args hp ks.length r hp' n') (hks : ∀ k ∈ ks, k < nx) (hn : ks.Nodup) (ha : args.all (AV.keyed ks.length 4) = true)
    (hh : hpOk ks.length pk hp) (hr : r.keyed n' 4 = true) (hh' : hpOk n' pk hp') : Spec P f (args.map (AV.ren (sg ks nx) 4)) (renH (sg ks nx) pk hp) nx (r.ren (sg ks nx) 4) (renH (sg ks nx) pk hp') (nx + (n' - ks.length)) := by
  refine ⟨h.1, fun w S m vs hm hA => ?_⟩
  have hinj : ∀ c c', sg ks nx c = sg ks nx c' → c = c' := fun c c' => sg_inj hks hn
  have hget : ∀ b, get (sg ks nx b) (renH (sg ks nx) pk hp) = (get b hp).map (Blk.rn (sg ks nx) (pk.contains b)) := fun b => get_renH (fun c _ e => hinj c b e)
  have hLv : ∀ i, Lv hp (fun c => m (sg ks nx c)) i → Lv (renH (sg ks nx) pk hp) m i := fun i ⟨b, k, hb, he⟩ => ⟨sg ks nx b, k.rn (sg ks nx) (pk.contains b), by rw [hget, hb]; rfl, he⟩
  have hLv' : ∀ i, Lv (renH (sg ks nx) pk hp) m i → Lv hp (fun c => m (sg ks nx c)) i := fun i ⟨b, k, hb, he⟩ => by
    obtain ⟨c, _, rfl⟩ := get_renH_some hb
    rw [hget] at hb
    obtain ⟨q, hq, _⟩ := map_some' hb
    exact ⟨c, q, hq, he⟩
  have hcells : ∀ (n : Nat) (b : Nat) (k : Blk), k.cs.all (AV.keyed (if pk.contains b = true then 0 else n) 4) = true → (k.rn (sg ks nx) (pk.contains b)).ty = k.ty ∧ (k.rn (sg ks nx) (pk.contains b)).sz = k.sz ∧ CellsTo (sg ks nx) n (k.rn (sg ks nx) (pk.contains b)).cs k.cs := fun n b k hk => by
    cases hp : pk.contains b with
    | true => rw [hp] at hk; exact ⟨rfl, rfl, .plain rfl hk⟩
    | false => rw [hp] at hk; exact ⟨rfl, rfl, .ren rfl hk⟩
  have hm1 : Mem ⟨w, Lv hp (fun c => m (sg ks nx c)), S, 0, fun c => m (sg ks nx c), ks.length⟩ hp ks.length w S (fun c => m (sg ks nx c)) := by
    refine hm.unren (F' := ⟨w, Lv hp (fun c => m (sg ks nx c)), S, 0, fun c => m (sg ks nx c), ks.length⟩) rfl (fun i => hLv' i) rfl (fun b k hg => ?_) (fun b b' _ _ => hinj b b') (fun _ _ => rfl) (Nat.le_refl _) (fun _ _ h _ => h) (fun _ _ _ => rfl)
    obtain ⟨h1, h2⟩ := hpOk_get hh hg
    obtain ⟨h3, h4, h5⟩ := hcells ks.length b k h2
    exact ⟨k.rn (sg ks nx) (pk.contains b), by rw [hget, hg]; rfl, h3, h4, h5, h1, .inl ⟨b, k, hg, rfl⟩⟩
  have hA1 : RepA w S (fun c => m (sg ks nx c)) ks.length args vs := ⟨by simpa using hA.1, fun j a b h1 h2 => (hA.2 j (a.ren (sg ks nx) 4) b (by rw [List.getElem?_map, h1]; rfl) h2).unren 4 a (List.all_eq_true.1 ha a (List.mem_of_getElem? h1))⟩
  refine (h.2 w S _ vs hm1 hA1).mono fun e w' ⟨v, S', m1, he, hm', hv⟩ => ?_
  let m' : Nat → Nat × Nat := fun c => if c < nx then m c else m1 (ks.length + (c - nx))
  have hmm : ∀ c, m' (sg ks nx c) = m1 c := fun c => by
    rcases Nat.lt_or_ge c ks.length with h1 | h1
    · have e1 := sg_lt (nx := nx) h1
      have h2 : sg ks nx c < nx := by rw [e1]; exact hks _ (List.getElem_mem h1)
      have e2 : m1 c = m (sg ks nx c) := hm'.agree c h1
      show (if _ then _ else _) = _
      rw [if_pos h2, e2]
    · have e1 := sg_ge (nx := nx) h1
      show (if _ then _ else _) = _
      rw [if_neg (by rw [e1]; omega), e1]; congr 1; omega
  have hlt : ∀ c, c < n' → sg ks nx c < nx + (n' - ks.length) := fun c hc => by
    rcases Nat.lt_or_ge c ks.length with h1 | h1
    · rw [sg_lt h1]; have := hks _ (List.getElem_mem h1); omega
    · rw [sg_ge h1]; omega
  have hget' : ∀ b, get (sg ks nx b) (renH (sg ks nx) pk hp') = (get b hp').map (Blk.rn (sg ks nx) (pk.contains b)) := fun b => get_renH (fun c _ e => hinj c b e)
  have hback : ∀ b k, get b (renH (sg ks nx) pk hp') = some k → ∃ c q, get c hp' = some q ∧ b = sg ks nx c ∧ k = q.rn (sg ks nx) (pk.contains c) := fun b k hb => by
    obtain ⟨c, _, rfl⟩ := get_renH_some hb
    rw [hget'] at hb
    obtain ⟨q, hq, e⟩ := map_some' hb
    exact ⟨c, q, hq, rfl, e.symm⟩
  refine ⟨v, S', m', he, ⟨hm'.os, hm'.tape, hm'.output, hm'.size, fun i hi hn => hm'.keep i hi (fun hh => hn (hLv i hh)), fun i hi => ⟨(hm'.old i hi).1, fun h1 h2 => (hm'.old i hi).2 h1 (fun hh => h2 (hLv i hh))⟩, fun b hb => if_pos hb, Nat.le_add_right _ _, hm'.lt, fun b k hg => ?_, fun b k hg => ?_, fun b b' k k' hg hg' he => ?_⟩, hv.ren (n := n') (fun c hc => ⟨hmm c, hlt c hc⟩) 4 hr⟩
  · obtain ⟨c, q, hq, rfl, rfl⟩ := hback b k hg
    obtain ⟨h1, h2, h3⟩ := hm'.live c q hq
    rw [hmm]
    exact ⟨hlt c h1, h2, h3.imp (hLv _) id⟩
  · obtain ⟨c, q, hq, rfl, rfl⟩ := hback b k hg
    rw [hmm]
    obtain ⟨cur, c1, c2, c3⟩ := hm'.cells c q hq
    have hk := (hpOk_get hh' hq).2
    cases hpk : pk.contains c with
    | true =>
      rw [hpk] at hk
      refine ⟨cur, c1, fun j x hx => ?_, c3⟩
      obtain ⟨v', y1, y2⟩ := c2 j x hx
      exact ⟨v', y1, ((y2.lower 4 (List.all_eq_true.1 hk x (List.mem_of_getElem? hx))).nokey).up (Nat.zero_le _)⟩
    | false =>
      rw [hpk] at hk
      refine ⟨cur, c1, fun j x hx => ?_, c3⟩
      have hx' : (q.cs.map (AV.ren (sg ks nx) 4))[j]? = some x := hx
      rw [List.getElem?_map] at hx'
      obtain ⟨y, hy, rfl⟩ := map_some' hx'
      obtain ⟨v', y1, y2⟩ := c2 j y hy
      exact ⟨v', y1, y2.ren (n := n') (fun c hc => ⟨hmm c, hlt c hc⟩) 4 (List.all_eq_true.1 hk y (List.mem_of_getElem? hy))⟩
  · obtain ⟨c, q, hq, rfl, rfl⟩ := hback b k hg
    obtain ⟨c', q', hq', rfl, rfl⟩ := hback b' k' hg'
    rw [hmm, hmm] at he
    rw [hm'.inj c c' q q' hq hq' he]
end
/-- The same slots under other keys, one by one. -/
def renE (σ : Nat → Nat) (n : Nat) (env : List (Nat × AV)) : List (Nat × AV) → Prop
  | [] => True
  | (t, x) :: l => (∃ y, get t env = some y ∧ Sub y (x.ren σ 4) ∧ x.keyed n 4 = true) ∧ renE σ n env l
def renB (σ : Nat → Nat) (n : Nat) (hp : List (Nat × Blk)) (b : Nat) (k : Blk) : Prop := ∃ k0, get (σ b) hp = some k0 ∧ k0.ty = k.ty ∧ k0.sz = k.sz ∧ CellsTo σ n k0.cs k.cs ∧ b < n
def renHp (σ : Nat → Nat) (n : Nat) (hp : List (Nat × Blk)) : List (Nat × Blk) → Prop
  | [] => True
  | (b, k) :: l => renB σ n hp b k ∧ renHp σ n hp l
theorem renE_spec {σ : Nat → Nat} {n : Nat} {env : List (Nat × AV)} : ∀ {l : List (Nat × AV)}, renE σ n env l → ∀ t x, get t l = some x → ∃ y, get t env = some y ∧ Sub y (x.ren σ 4) ∧ x.keyed n 4 = true
  | [], _, t, x, h => by cases h
  | (k, y) :: l, hs, t, x, h => by
    have h' : (if t = k then some y else get t l) = some x := h
    split at h'
    · rename_i e; subst e; injection h' with h'; subst h'; exact hs.1
    · exact renE_spec hs.2 t x h'
theorem renHp_spec {σ : Nat → Nat} {n : Nat} {hp : List (Nat × Blk)} : ∀ {l : List (Nat × Blk)}, renHp σ n hp l → ∀ t x, get t l = some x → renB σ n hp t x
  | [], _, t, x, h => by cases h
  | (k, y) :: l, hs, t, x, h => by
    have h' : (if t = k then some y else get t l) = some x := h
    split at h'
    · rename_i e; subst e; injection h' with h'; subst h'; exact hs.1
    · exact renHp_spec hs.2 t x h'
/-- A slot's value under other keys; a nil slice as an empty one. -/
theorem reS {σ : Nat → Nat} {n t : Nat} {env : List (Nat × AV)} {x : AV} (h : get t env = some (x.ren σ 4)) (hk : x.keyed n 4 = true) : ∃ y, get t env = some y ∧ Sub y (x.ren σ 4) ∧ x.keyed n 4 = true := ⟨_, h, Sub.refl _, hk⟩
theorem rePl {σ : Nat → Nat} {n b : Nat} {hp : List (Nat × Blk)} {k : Blk} (h : get (σ b) hp = some k) (hb : b < n) (hk : k.cs.all (AV.keyed 0 4) = true) : renB σ n hp b k := ⟨k, h, rfl, rfl, .plain rfl hk, hb⟩
theorem reRn {σ : Nat → Nat} {n b : Nat} {hp : List (Nat × Blk)} {k : Blk} (h : get (σ b) hp = some (k.ren σ)) (hb : b < n) (hk : k.cs.all (AV.keyed n 4) = true) : renB σ n hp b k := ⟨k.ren σ, h, rfl, rfl, .ren rfl hk, hb⟩
/-- Keys that stand for others: (new, old); all others for themselves. -/
def kmap (l : List (Nat × Nat)) (c : Nat) : Nat := (get c l).getD c
/-- No two of these keys stand for the same one. -/
def distinct (σ : Nat → Nat) : List (Nat × Blk) → Bool
  | [] => true
  | (b, _) :: l => (l.all fun p => !(σ b == σ p.1) || b == p.1) && distinct σ l
theorem distinct_spec {σ : Nat → Nat} : ∀ {l : List (Nat × Blk)}, distinct σ l = true → ∀ b b', b ∈ l.map Prod.fst → b' ∈ l.map Prod.fst → σ b = σ b' → b = b'
  | [], _, b, b', h, _, _ => by simp at h
  | (c, k) :: l, hd, b, b', h, h', he => by
    unfold distinct at hd
    rw [Bool.and_eq_true] at hd
    have hc : ∀ b', b' ∈ l.map Prod.fst → σ c = σ b' → c = b' := fun b' hb' e => by
      obtain ⟨p, hp, rfl⟩ := List.mem_map.1 hb'
      have := List.all_eq_true.1 hd.1 p hp
      simpa [e] using this
    rw [List.map_cons, List.mem_cons] at h h'
    rcases h with rfl | h <;> rcases h' with rfl | h'
    · rfl
    · exact hc b' h' he
    · exact (hc b h he.symm).symm
    · exact distinct_spec hd.2 b b' h h' he
/-- A state under other keys. -/
theorem to_ren {lo : Nat} {st st' : St} (km : List (Nat × Nat)) (h : lo ≤ st'.nx) (hlow : km.all (fun p => decide (lo ≤ p.1)) = true) (hinj : distinct (kmap km) st'.hp = true)
    (hE : renE (kmap km) st'.nx st.env st'.env) (hH : renHp (kmap km) st'.nx st.hp st'.hp) : St.to lo st st' := by
  have hid : ∀ b, b < lo → kmap km b = b := fun b hb => by
    unfold kmap
    cases hg : get b km with
    | none => rfl
    | some c =>
      have hm : ∀ {l : List (Nat × Nat)}, l.all (fun p => decide (lo ≤ p.1)) = true → get b l = none := by
        intro l
        induction l with
        | nil => intro _; rfl
        | cons p l ih =>
          intro hl
          simp only [List.all_cons, Bool.and_eq_true, decide_eq_true_eq] at hl
          show (if b = p.1 then some p.2 else get b l) = none
          rw [if_neg (by omega), ih hl.2]
      rw [hm hlow] at hg; cases hg
  refine ⟨h, fun F a w hlo ⟨hd, htn, S, m, hm, hE'⟩ => ⟨hd, htn, S, fun c => m (kmap km c), hm.unren rfl (fun _ h => h) rfl (fun b k hg => ?_) (distinct_spec hinj) (fun b hb => ?_) (Nat.le_trans hlo h) (fun i hi h1 h2 => (hm.old i hi).2 h1 h2) (fun i hi hn => hm.keep i hi hn), fun t x hx => ?_⟩⟩
  · obtain ⟨k0, h1, h2, h3, h4, h5⟩ := renHp_spec hH b k hg
    exact ⟨k0, h1, h2, h3, h4, h5, (hm.live _ _ h1).2.2⟩
  · rw [hid b (Nat.lt_of_lt_of_le hb hlo)]; exact hm.agree b hb
  · obtain ⟨y, h1, hs, h2⟩ := renE_spec hE t x hx
    exact ⟨(hE' t _ h1).1, (hs _ _ _ _ _ (hE' t _ h1).2).unren 4 x h2⟩
end Go.Proofs.Ytgggekjhfdkgkaa.Ab
