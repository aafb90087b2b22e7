/- Merged texts: AbP AbQ AbR AbS AbX. -/
import Derived.Test.YtdfokoapenhalaaDoorAbK
import Derived.Laws.StructEq
section
namespace Go.Proofs.YtdfokoapenhalaaDoor.Ab
open Go Go.RowKit Go.Shelf

/-- A value under other keys. -/
def AV.ren (σ : Nat → Nat) : Nat → AV → AV
  | _, .own b n => .own (σ b) n
  | _, .ptr b o => .ptr (σ b) o
  | _, .mp b => .mp (σ b)
  | _, .asl b n => .asl (σ b) n
  | d + 1, .agg cs => .agg (cs.map (AV.ren σ d))
  | d + 1, .tup cs => .tup (cs.map (AV.ren σ d))
  | d + 1, .fn f cs => .fn f (cs.map (AV.ren σ d))
  | d + 1, .bm f cs => .bm f (cs.map (AV.ren σ d))
  | _, x => x
def Blk.ren (σ : Nat → Nat) (k : Blk) : Blk := ⟨k.ty, k.sz, k.cs.map (AV.ren σ 4)⟩
/-- A block whose cells bear no keys is left as it is. -/
def Blk.rn (σ : Nat → Nat) : Bool → Blk → Blk
  | true, k => k
  | false, k => k.ren σ
def renH (σ : Nat → Nat) (pk : List Nat) : List (Nat × Blk) → List (Nat × Blk)
  | [] => []
  | (b, k) :: l => (σ b, k.rn σ (pk.contains b)) :: renH σ pk l
/-- All keys in blocks are below a bound; some blocks bear none. -/
def hpOk (n : Nat) (pk : List Nat) : List (Nat × Blk) → Prop
  | [] => True
  | (b, k) :: l => (b < n ∧ k.cs.all (AV.keyed (if pk.contains b = true then 0 else n) 4) = true) ∧ hpOk n pk l
theorem hpOk_get {n : Nat} {pk : List Nat} {b : Nat} {k : Blk} : ∀ {l : List (Nat × Blk)}, hpOk n pk l → get b l = some k → b < n ∧ k.cs.all (AV.keyed (if pk.contains b = true then 0 else n) 4) = true
  | [], _, h => by cases h
  | (c, q) :: l, hs, h => by
    have h' : (if b = c then some q else get b l) = some k := h
    split at h'
    · rename_i e; subst e; injection h' with h'; subst h'; exact hs.1
    · exact hpOk_get hs.2 h'
theorem get_mem {α : Type} {b : Nat} {k : α} : ∀ {l : List (Nat × α)}, get b l = some k → b ∈ l.map Prod.fst
  | [], h => by cases h
  | (c, q) :: l, h => by
    have h' : (if b = c then some q else get b l) = some k := h
    split at h'
    · rename_i e; subst e; simp
    · simp [get_mem h']
theorem get_renH {σ : Nat → Nat} {pk : List Nat} {b : Nat} : ∀ {l : List (Nat × Blk)}, (∀ c ∈ l.map Prod.fst, σ c = σ b → c = b) → get (σ b) (renH σ pk l) = (get b l).map (Blk.rn σ (pk.contains b))
  | [], _ => rfl
  | (c, q) :: l, h => by
    have ih := get_renH (σ := σ) (pk := pk) (b := b) (l := l) (fun c hc => h c (by simp at hc ⊢; exact .inr hc))
    show (if σ b = σ c then some (q.rn σ (pk.contains c)) else get (σ b) (renH σ pk l)) = ((if b = c then some q else get b l).map (Blk.rn σ (pk.contains b)))
    by_cases e : b = c
    · subst e; simp
    · rw [if_neg e, if_neg (fun e' => e (h c (by simp) e'.symm).symm), ih]
theorem get_renH_some {σ : Nat → Nat} {pk : List Nat} {b : Nat} {k : Blk} : ∀ {l : List (Nat × Blk)}, get b (renH σ pk l) = some k → ∃ c ∈ l.map Prod.fst, σ c = b
  | [], h => by cases h
  | (c, q) :: l, h => by
    have h' : (if b = σ c then some (q.rn σ (pk.contains c)) else get b (renH σ pk l)) = some k := h
    split at h'
    · rename_i e; exact ⟨c, by simp, e.symm⟩
    · obtain ⟨c', h1, h2⟩ := get_renH_some h'
      exact ⟨c', by simp at h1 ⊢; exact .inr h1, h2⟩
section
variable {P : Program} {w w' : World} {S : Nat → Prop} {m m' : Nat → Nat × Nat} {σ : Nat → Nat}
theorem Rep.nokey {x : AV} {v : Value} (h : Rep w S m 0 x v) : Rep w S m' 0 x v := h.mono (fun _ _ h => ⟨rfl, h⟩) (fun b hb => absurd hb (by omega)) (Nat.le_refl _)
theorem Rep.ren {nx n nx' : Nat} (hm : ∀ c, c < n → m' (σ c) = m c ∧ σ c < nx') {x : AV} {v : Value} (h : Rep w S m nx x v) : ∀ d, AV.keyed n d x = true → Rep w S m' nx' (x.ren σ d) v := by
  have key : ∀ (cs : List AV) (d : Nat), cs.all (AV.keyed n d) = true → ∀ (j : Nat) (a : AV), cs[j]? = some a → AV.keyed n d a = true := fun cs d hd j a ha =>
    List.all_eq_true.1 hd a (List.mem_of_getElem? ha)
  induction h with
  | s v => intro d _; cases d <;> exact .s v
  | sl0 a cap => intro d _; cases d <;> exact .sl0 a cap
  | sl g off cap val hg hS hz hc ho h hcap ih => intro d _; cases d <;> exact .sl g off cap val hg hS hz hc ho (fun i e j a h1 h2 => (h i e j a h1 h2).nokey) hcap
  | ip g off val hg hS hc h ih => intro d _; cases d <;> exact .ip g off val hg hS hc (fun j a h1 => (h j a h1).nokey)
  | own b n hb hmk =>
    intro d hd
    have hb' := hm b (by cases d <;> simpa [AV.keyed] using hd)
    rw [← hb'.1] at hmk ⊢
    cases d <;> exact .own _ _ hb'.2 hmk
  | ptr b n hb hmk =>
    intro d hd
    have hb' := hm b (by cases d <;> simpa [AV.keyed] using hd)
    rw [← hb'.1] at hmk ⊢
    cases d <;> exact .ptr _ _ hb'.2 hmk
  | mp b hb hmk =>
    intro d hd
    have hb' := hm b (by cases d <;> simpa [AV.keyed] using hd)
    rw [← hb'.1] at hmk ⊢
    cases d <;> exact .mp _ hb'.2 hmk
  | asl b n hb hmk =>
    intro d hd
    have hb' := hm b (by cases d <;> simpa [AV.keyed] using hd)
    rw [← hb'.1] at hmk ⊢
    cases d <;> exact .asl _ _ hb'.2 hmk
  | agg vs hl h ih =>
    intro d hd
    cases d with
    | zero => simp [AV.keyed] at hd
    | succ d =>
      refine .agg vs (by simpa using hl) fun j a b ha hb => ?_
      rw [List.getElem?_map] at ha
      obtain ⟨a', ha', e⟩ := map_some' ha
      subst e
      exact ih j a' b ha' hb d (key _ d (by simpa [AV.keyed] using hd) j a' ha')
  | tup vs hl h ih =>
    intro d hd
    cases d with
    | zero => simp [AV.keyed] at hd
    | succ d =>
      refine .tup vs (by simpa using hl) fun j a b ha hb => ?_
      rw [List.getElem?_map] at ha
      obtain ⟨a', ha', e⟩ := map_some' ha
      subst e
      exact ih j a' b ha' hb d (key _ d (by simpa [AV.keyed] using hd) j a' ha')
  | fn vs hl h ih =>
    intro d hd
    cases d with
    | zero => simp [AV.keyed] at hd
    | succ d =>
      refine .fn vs (by simpa using hl) fun j a b ha hb => ?_
      rw [List.getElem?_map] at ha
      obtain ⟨a', ha', e⟩ := map_some' ha
      subst e
      exact ih j a' b ha' hb d (key _ d (by simpa [AV.keyed] using hd) j a' ha')
  | bm vs hl h ih =>
    intro d hd
    cases d with
    | zero => simp [AV.keyed] at hd
    | succ d =>
      refine .bm vs (by simpa using hl) fun j a b ha hb => ?_
      rw [List.getElem?_map] at ha
      obtain ⟨a', ha', e⟩ := map_some' ha
      subst e
      exact ih j a' b ha' hb d (key _ d (by simpa [AV.keyed] using hd) j a' ha')
theorem Rep.unren {nx n : Nat} : ∀ (d : Nat) (x : AV) {v : Value}, Rep w S m nx (x.ren σ d) v → AV.keyed n d x = true → Rep w S (fun c => m (σ c)) n x v := by
  have own : ∀ (b k : Nat) {v : Value}, b < n → Rep w S m nx (.own (σ b) k) v → Rep w S (fun c => m (σ c)) n (.own b k) v := fun b k v hb h => by
    cases h with
    | own _ _ h hmk => exact Rep.own (m := fun c => m (σ c)) b k hb hmk
  have ptr : ∀ (b k : Nat) {v : Value}, b < n → Rep w S m nx (.ptr (σ b) k) v → Rep w S (fun c => m (σ c)) n (.ptr b k) v := fun b k v hb h => by
    cases h with
    | ptr _ _ h hmk => exact Rep.ptr (m := fun c => m (σ c)) b k hb hmk
  have mp : ∀ (b : Nat) {v : Value}, b < n → Rep w S m nx (.mp (σ b)) v → Rep w S (fun c => m (σ c)) n (.mp b) v := fun b v hb h => by
    cases h with
    | mp _ h hmk => exact Rep.mp (m := fun c => m (σ c)) b hb hmk
  have asl : ∀ (b k : Nat) {v : Value}, b < n → Rep w S m nx (.asl (σ b) k) v → Rep w S (fun c => m (σ c)) n (.asl b k) v := fun b k v hb h => by
    cases h with
    | asl _ _ h hmk => exact Rep.asl (m := fun c => m (σ c)) b k hb hmk
  have same : ∀ (x : AV) {v : Value}, (∀ b k, x ≠ .own b k) → (∀ b k, x ≠ .ptr b k) → (∀ cs, x ≠ .agg cs) → (∀ cs, x ≠ .tup cs) → (∀ f cs, x ≠ .fn f cs) → (∀ b, x ≠ .mp b) → (∀ b n, x ≠ .asl b n) → (∀ f cs, x ≠ .bm f cs) → Rep w S m nx x v → Rep w S (fun c => m (σ c)) n x v := fun x v h1 h2 h3 h4 h5 h6 h7 h8 h => by
    cases h with
    | s v => exact .s v
    | sl0 a c => exact .sl0 a c
    | sl g off cap val hg hS hz hc ho h hcap => exact .sl g off cap val hg hS hz hc ho (fun i e j a h1 h2 => (h i e j a h1 h2).nokey) hcap
    | ip g off val hg hS hc h => exact .ip g off val hg hS hc (fun j a h1 => (h j a h1).nokey)
    | own b k hb => exact absurd rfl (h1 _ _)
    | ptr b k hb => exact absurd rfl (h2 _ _)
    | agg vs hl hr => exact absurd rfl (h3 _)
    | tup vs hl hr => exact absurd rfl (h4 _)
    | fn vs hl hr => exact absurd rfl (h5 _ _)
    | mp b hb => exact absurd rfl (h6 _)
    | asl b k hb => exact absurd rfl (h7 _ _)
    | bm vs hl hr => exact absurd rfl (h8 _ _)
  intro d
  induction d with
  | zero =>
    intro x v h hk
    cases x with
    | own b k => exact own b k (by simpa [AV.keyed] using hk) h
    | ptr b k => exact ptr b k (by simpa [AV.keyed] using hk) h
    | mp b => exact mp b (by simpa [AV.keyed] using hk) h
    | asl b k => exact asl b k (by simpa [AV.keyed] using hk) h
    | agg cs => simp [AV.keyed] at hk
    | tup cs => simp [AV.keyed] at hk
    | fn f cs => simp [AV.keyed] at hk
    | bm f cs => simp [AV.keyed] at hk
    | _ => exact same _ (fun _ _ e => by cases e) (fun _ _ e => by cases e) (fun _ e => by cases e) (fun _ e => by cases e) (fun _ _ e => by cases e) (fun _ e => by cases e) (fun _ _ e => by cases e) (fun _ _ e => by cases e) h
  | succ d ih =>
    intro x v h hk
    have part : ∀ (cs : List AV) (vs : Array Value), cs.all (AV.keyed n d) = true → (∀ (j : Nat) (a : AV) (b : Value), (cs.map (AV.ren σ d))[j]? = some a → vs[j]? = some b → Rep w S m nx a b) →
        ∀ (j : Nat) (a : AV) (b : Value), cs[j]? = some a → vs[j]? = some b → Rep w S (fun c => m (σ c)) n a b := fun cs vs hk hr j a b ha hb =>
      ih a (hr j _ b (by rw [List.getElem?_map, ha]; rfl) hb) (List.all_eq_true.1 hk a (List.mem_of_getElem? ha))
    cases x with
    | own b k => exact own b k (by simpa [AV.keyed] using hk) h
    | ptr b k => exact ptr b k (by simpa [AV.keyed] using hk) h
    | mp b => exact mp b (by simpa [AV.keyed] using hk) h
    | asl b k => exact asl b k (by simpa [AV.keyed] using hk) h
    | agg cs =>
      cases h with
      | agg vs hl hr => exact .agg vs (by simpa using hl) (part cs vs (by simpa [AV.keyed] using hk) hr)
    | tup cs =>
      cases h with
      | tup vs hl hr => exact .tup vs (by simpa using hl) (part cs vs (by simpa [AV.keyed] using hk) hr)
    | fn f cs =>
      cases h with
      | fn vs hl hr => exact .fn vs (by simpa using hl) (part cs vs (by simpa [AV.keyed] using hk) hr)
    | bm f cs =>
      cases h with
      | bm vs hl hr => exact .bm vs (by simpa using hl) (part cs vs (by simpa [AV.keyed] using hk) hr)
    | _ => exact same _ (fun _ _ e => by cases e) (fun _ _ e => by cases e) (fun _ e => by cases e) (fun _ e => by cases e) (fun _ _ e => by cases e) (fun _ e => by cases e) (fun _ _ e => by cases e) (fun _ _ e => by cases e) h
/-- Cells that stand for others, under other keys. -/
def CellsTo (σ : Nat → Nat) (n : Nat) (cs0 cs : List AV) : Prop := cs0.length = cs.length ∧ ∀ (j : Nat) (x : AV), cs[j]? = some x → ∃ y, cs0[j]? = some y ∧ (∀ w S m nx v, Rep w S m nx y v → Rep w S (fun c => m (σ c)) n x v)
theorem CellsTo.plain {n : Nat} {cs0 cs : List AV} (h : cs0 = cs) (hk : cs.all (AV.keyed 0 4) = true) : CellsTo σ n cs0 cs := ⟨by rw [h], fun j x hx => by
  subst h
  exact ⟨x, hx, fun w S m nx v hr => ((hr.lower 4 (List.all_eq_true.1 hk x (List.mem_of_getElem? hx))).nokey (m' := fun c => m (σ c))).up (Nat.zero_le _)⟩⟩
theorem CellsTo.ren {n : Nat} {cs0 cs : List AV} (h : cs0 = cs.map (AV.ren σ 4)) (hk : cs.all (AV.keyed n 4) = true) : CellsTo σ n cs0 cs := ⟨by rw [h, List.length_map], fun j x hx => by
  subst h
  exact ⟨x.ren σ 4, by rw [List.getElem?_map, hx]; rfl, fun w S m nx v hr => hr.unren 4 x (List.all_eq_true.1 hk x (List.mem_of_getElem? hx))⟩⟩
/-- The blocks in memory, under the keys that they had before. -/
theorem Mem.unren {F F' : Fr} {hp hp' : List (Nat × Blk)} {nx n : Nat} (h : Mem F hp nx w S m) (hgl : Globs F'.w0 F'.S0 F'.Si) (hw : F'.w0 = F.w0) (hS0 : ∀ i, F.S0 i → F'.S0 i) (hSi : F'.Si = F.Si)
    (hl : ∀ b k, get b hp' = some k → ∃ k0, get (σ b) hp = some k0 ∧ k0.ty = k.ty ∧ k0.sz = k.sz ∧ CellsTo σ n k0.cs k.cs ∧ b < n ∧ (F'.S0 (m (σ b)).1 ∨ F.w0.heap.size ≤ (m (σ b)).1)) (hinj : ∀ b b', b ∈ hp'.map Prod.fst → b' ∈ hp'.map Prod.fst → σ b = σ b' → b = b')
    (hag : ∀ b, b < F'.ni → m (σ b) = F'.mi b) (hni : F'.ni ≤ n) (hold : ∀ i, i < F.w0.heap.size → F.Si i → ¬ F'.S0 i → S i) (hkeep : ∀ i, i < F.w0.heap.size → ¬ F'.S0 i → w.heap[i]? = F.w0.heap[i]?) : Mem F' hp' n w S (fun c => m (σ c)) := by
  refine ⟨hgl, by rw [hw]; exact h.os, by rw [hw]; exact h.tape, by rw [hw]; exact h.output, by rw [hw]; exact h.size, fun i hi hn => by rw [hw]; exact hkeep i (by rw [← hw]; exact hi) hn, fun i hi => ⟨fun hs => by rw [hSi]; exact (h.old i (by rw [← hw]; exact hi)).1 hs, fun h1 h2 => hold i (by rw [← hw]; exact hi) (by rw [← hSi]; exact h1) h2⟩,
    hag, hni, h.lt, fun b k hg => ?_, fun b k hg => ?_, fun b b' k k' hg hg' he => ?_⟩
  · obtain ⟨k0, h1, _, _, _, h2, h4⟩ := hl b k hg
    exact ⟨h2, (h.live _ _ h1).2.1, by rw [hw]; exact h4⟩
  · obtain ⟨k0, h1, ht, hz, h3, _⟩ := hl b k hg
    obtain ⟨cur, c1, c2, c3⟩ := h.cells _ _ h1
    refine ⟨cur, ⟨fun hk => by rw [← ht]; exact c1.1 hk, fun hk => ⟨(c1.2 hk).1, by rw [← h3.1]; exact (c1.2 hk).2⟩⟩, fun j x hx => ?_, by rw [← hz]; exact c3⟩
    obtain ⟨y, hy, hr⟩ := h3.2 j x hx
    obtain ⟨v, y1, y2⟩ := c2 j y hy
    exact ⟨v, y1, hr _ _ _ _ _ y2⟩
  · obtain ⟨k0, h1, _⟩ := hl b k hg
    obtain ⟨k0', h1', _⟩ := hl b' k' hg'
    exact hinj b b' (get_mem hg) (get_mem hg') (h.inj _ _ _ _ h1 h1' he)
/-- The key that a call's own key stands for: those that it was given, and new ones. -/
def sg (ks : List Nat) (nx c : Nat) : Nat := match ks[c]? with
  | some k => k
  | none => nx + (c - ks.length)
theorem sg_lt {ks : List Nat} {nx c : Nat} (h : c < ks.length) : sg ks nx c = ks[c] := by simp [sg, h]
theorem sg_ge {ks : List Nat} {nx c : Nat} (h : ks.length ≤ c) : sg ks nx c = nx + (c - ks.length) := by simp [sg, h]
theorem sg_inj {ks : List Nat} {nx : Nat} (hks : ∀ k ∈ ks, k < nx) (hn : ks.Nodup) {c c' : Nat} (h : sg ks nx c = sg ks nx c') : c = c' := by
  rcases Nat.lt_or_ge c ks.length with h1 | h1 <;> rcases Nat.lt_or_ge c' ks.length with h2 | h2
  · rw [sg_lt h1, sg_lt h2] at h
    exact (List.getElem_inj hn).1 h
  · rw [sg_lt h1, sg_ge h2] at h
    have := hks _ (List.getElem_mem h1); omega
  · rw [sg_ge h1, sg_lt h2] at h
    have := hks _ (List.getElem_mem h2); omega
  · rw [sg_ge h1, sg_ge h2] at h; omega
theorem keyed_mono {n n' : Nat} (h : n ≤ n') : ∀ (d : Nat) (x : AV), AV.keyed n d x = true → AV.keyed n' d x = true := by
  intro d
  induction d with
  | zero => intro x hx; cases x <;> simp [AV.keyed] at hx ⊢ <;> omega
  | succ d ih =>
    intro x hx
    cases x <;> simp [AV.keyed] at hx ⊢ <;> first
      | omega
      | exact fun a ha => ih a (hx a ha)
/-- A contract under other keys. -/
theorem spec_ren {f : FuncId} {args : List AV} {hp hp' : List (Nat × Blk)} {r : AV} {n' : Nat} (ks pk : List Nat) (nx : Nat) (h : Spec P f args hp ks.length r hp' n') (hks : ∀ k ∈ ks, k < nx) (hn : ks.Nodup) (ha : args.all (AV.keyed ks.length 4) = true)
    (hh : hpOk ks.length pk hp) (hr : r.keyed n' 4 = true) (hh' : hpOk n' pk hp') : Spec P f (args.map (AV.ren (sg ks nx) 4)) (renH (sg ks nx) pk hp) nx (r.ren (sg ks nx) 4) (renH (sg ks nx) pk hp') (nx + (n' - ks.length)) := by
  refine ⟨h.1, fun w S m vs hm hA => ?_⟩
  have hinj : ∀ c c', sg ks nx c = sg ks nx c' → c = c' := fun c c' => sg_inj hks hn
  have hget : ∀ b, get (sg ks nx b) (renH (sg ks nx) pk hp) = (get b hp).map (Blk.rn (sg ks nx) (pk.contains b)) := fun b => get_renH (fun c _ e => hinj c b e)
  have hLv : ∀ i, Lv hp (fun c => m (sg ks nx c)) i → Lv (renH (sg ks nx) pk hp) m i := fun i ⟨b, k, hb, he⟩ => ⟨sg ks nx b, k.rn (sg ks nx) (pk.contains b), by rw [hget, hb]; rfl, he⟩
  have hLv' : ∀ i, Lv (renH (sg ks nx) pk hp) m i → Lv hp (fun c => m (sg ks nx c)) i := fun i ⟨b, k, hb, he⟩ => by
    obtain ⟨c, _, rfl⟩ := get_renH_some hb
    rw [hget] at hb
    obtain ⟨q, hq, _⟩ := map_some' hb
    exact ⟨c, q, hq, he⟩
  have hcells : ∀ (n : Nat) (b : Nat) (k : Blk), k.cs.all (AV.keyed (if pk.contains b = true then 0 else n) 4) = true → (k.rn (sg ks nx) (pk.contains b)).ty = k.ty ∧ (k.rn (sg ks nx) (pk.contains b)).sz = k.sz ∧ CellsTo (sg ks nx) n (k.rn (sg ks nx) (pk.contains b)).cs k.cs := fun n b k hk => by
    cases hp : pk.contains b with
    | true => rw [hp] at hk; exact ⟨rfl, rfl, .plain rfl hk⟩
    | false => rw [hp] at hk; exact ⟨rfl, rfl, .ren rfl hk⟩
  have hm1 : Mem ⟨w, Lv hp (fun c => m (sg ks nx c)), S, 0, fun c => m (sg ks nx c), ks.length⟩ hp ks.length w S (fun c => m (sg ks nx c)) := by
    refine hm.unren (F' := ⟨w, Lv hp (fun c => m (sg ks nx c)), S, 0, fun c => m (sg ks nx c), ks.length⟩) (hm.globs (fun i hi => by obtain ⟨b, k, hb, he⟩ := hLv i hi; rw [← he]; exact (hm.live b k hb).2.1)) rfl (fun i => hLv' i) rfl (fun b k hg => ?_) (fun b b' _ _ => hinj b b') (fun _ _ => rfl) (Nat.le_refl _) (fun _ _ h _ => h) (fun _ _ _ => rfl)
    obtain ⟨h1, h2⟩ := hpOk_get hh hg
    obtain ⟨h3, h4, h5⟩ := hcells ks.length b k h2
    exact ⟨k.rn (sg ks nx) (pk.contains b), by rw [hget, hg]; rfl, h3, h4, h5, h1, .inl ⟨b, k, hg, rfl⟩⟩
  have hA1 : RepA w S (fun c => m (sg ks nx c)) ks.length args vs := ⟨by simpa using hA.1, fun j a b h1 h2 => (hA.2 j (a.ren (sg ks nx) 4) b (by rw [List.getElem?_map, h1]; rfl) h2).unren 4 a (List.all_eq_true.1 ha a (List.mem_of_getElem? h1))⟩
  refine (h.2 w S _ vs hm1 hA1).mono fun e w' ⟨v, S', m1, he, hm', hv⟩ => ?_
  let m' : Nat → Nat × Nat := fun c => if c < nx then m c else m1 (ks.length + (c - nx))
  have hmm : ∀ c, m' (sg ks nx c) = m1 c := fun c => by
    rcases Nat.lt_or_ge c ks.length with h1 | h1
    · have e1 := sg_lt (nx := nx) h1
      have h2 : sg ks nx c < nx := by rw [e1]; exact hks _ (List.getElem_mem h1)
      have e2 : m1 c = m (sg ks nx c) := hm'.agree c h1
      show (if _ then _ else _) = _
      rw [if_pos h2, e2]
    · have e1 := sg_ge (nx := nx) h1
      show (if _ then _ else _) = _
      rw [if_neg (by rw [e1]; omega), e1]; congr 1; omega
  have hlt : ∀ c, c < n' → sg ks nx c < nx + (n' - ks.length) := fun c hc => by
    rcases Nat.lt_or_ge c ks.length with h1 | h1
    · rw [sg_lt h1]; have := hks _ (List.getElem_mem h1); omega
    · rw [sg_ge h1]; omega
  have hget' : ∀ b, get (sg ks nx b) (renH (sg ks nx) pk hp') = (get b hp').map (Blk.rn (sg ks nx) (pk.contains b)) := fun b => get_renH (fun c _ e => hinj c b e)
  have hback : ∀ b k, get b (renH (sg ks nx) pk hp') = some k → ∃ c q, get c hp' = some q ∧ b = sg ks nx c ∧ k = q.rn (sg ks nx) (pk.contains c) := fun b k hb => by
    obtain ⟨c, _, rfl⟩ := get_renH_some hb
    rw [hget'] at hb
    obtain ⟨q, hq, e⟩ := map_some' hb
    exact ⟨c, q, hq, rfl, e.symm⟩
  refine ⟨v, S', m', he, ⟨hm.glob, hm'.os, hm'.tape, hm'.output, hm'.size, fun i hi hn => hm'.keep i hi (fun hh => hn (hLv i hh)), fun i hi => ⟨(hm'.old i hi).1, fun h1 h2 => (hm'.old i hi).2 h1 (fun hh => h2 (hLv i hh))⟩, fun b hb => if_pos hb, Nat.le_add_right _ _, hm'.lt, fun b k hg => ?_, fun b k hg => ?_, fun b b' k k' hg hg' he => ?_⟩, hv.ren (n := n') (fun c hc => ⟨hmm c, hlt c hc⟩) 4 hr⟩
  · obtain ⟨c, q, hq, rfl, rfl⟩ := hback b k hg
    obtain ⟨h1, h2, h3⟩ := hm'.live c q hq
    rw [hmm]
    exact ⟨hlt c h1, h2, h3.imp (hLv _) id⟩
  · obtain ⟨c, q, hq, rfl, rfl⟩ := hback b k hg
    rw [hmm]
    obtain ⟨cur, c1, c2, c3⟩ := hm'.cells c q hq
    have hk := (hpOk_get hh' hq).2
    cases hpk : pk.contains c with
    | true =>
      rw [hpk] at hk
      refine ⟨cur, c1, fun j x hx => ?_, c3⟩
      obtain ⟨v', y1, y2⟩ := c2 j x hx
      exact ⟨v', y1, ((y2.lower 4 (List.all_eq_true.1 hk x (List.mem_of_getElem? hx))).nokey).up (Nat.zero_le _)⟩
    | false =>
      rw [hpk] at hk
      refine ⟨cur, ⟨c1.1, fun hk => ⟨(c1.2 hk).1, by show (q.cs.map _).length = _; rw [List.length_map]; exact (c1.2 hk).2⟩⟩, fun j x hx => ?_, c3⟩
      have hx' : (q.cs.map (AV.ren (sg ks nx) 4))[j]? = some x := hx
      rw [List.getElem?_map] at hx'
      obtain ⟨y, hy, rfl⟩ := map_some' hx'
      obtain ⟨v', y1, y2⟩ := c2 j y hy
      exact ⟨v', y1, y2.ren (n := n') (fun c hc => ⟨hmm c, hlt c hc⟩) 4 (List.all_eq_true.1 hk y (List.mem_of_getElem? hy))⟩
  · obtain ⟨c, q, hq, rfl, rfl⟩ := hback b k hg
    obtain ⟨c', q', hq', rfl, rfl⟩ := hback b' k' hg'
    rw [hmm, hmm] at he
    rw [hm'.inj c c' q q' hq hq' he]
end
/-- The same slots under other keys, one by one. -/
def renE (σ : Nat → Nat) (n : Nat) (env : List (Nat × AV)) : List (Nat × AV) → Prop
  | [] => True
  | (t, x) :: l => (∃ y, get t env = some y ∧ Sub y (x.ren σ 4) ∧ x.keyed n 4 = true) ∧ renE σ n env l
def renB (σ : Nat → Nat) (n : Nat) (hp : List (Nat × Blk)) (b : Nat) (k : Blk) : Prop := ∃ k0, get (σ b) hp = some k0 ∧ k0.ty = k.ty ∧ k0.sz = k.sz ∧ CellsTo σ n k0.cs k.cs ∧ b < n
def renHp (σ : Nat → Nat) (n : Nat) (hp : List (Nat × Blk)) : List (Nat × Blk) → Prop
  | [] => True
  | (b, k) :: l => renB σ n hp b k ∧ renHp σ n hp l
theorem renE_spec {σ : Nat → Nat} {n : Nat} {env : List (Nat × AV)} : ∀ {l : List (Nat × AV)}, renE σ n env l → ∀ t x, get t l = some x → ∃ y, get t env = some y ∧ Sub y (x.ren σ 4) ∧ x.keyed n 4 = true
  | [], _, t, x, h => by cases h
  | (k, y) :: l, hs, t, x, h => by
    have h' : (if t = k then some y else get t l) = some x := h
    split at h'
    · rename_i e; subst e; injection h' with h'; subst h'; exact hs.1
    · exact renE_spec hs.2 t x h'
theorem renHp_spec {σ : Nat → Nat} {n : Nat} {hp : List (Nat × Blk)} : ∀ {l : List (Nat × Blk)}, renHp σ n hp l → ∀ t x, get t l = some x → renB σ n hp t x
  | [], _, t, x, h => by cases h
  | (k, y) :: l, hs, t, x, h => by
    have h' : (if t = k then some y else get t l) = some x := h
    split at h'
    · rename_i e; subst e; injection h' with h'; subst h'; exact hs.1
    · exact renHp_spec hs.2 t x h'
/-- A slot's value under other keys; a nil slice as an empty one. -/
theorem reS {σ : Nat → Nat} {n t : Nat} {env : List (Nat × AV)} {x : AV} (h : get t env = some (x.ren σ 4)) (hk : x.keyed n 4 = true) : ∃ y, get t env = some y ∧ Sub y (x.ren σ 4) ∧ x.keyed n 4 = true := ⟨_, h, Sub.refl _, hk⟩
theorem rePl {σ : Nat → Nat} {n b : Nat} {hp : List (Nat × Blk)} {k : Blk} (h : get (σ b) hp = some k) (hb : b < n) (hk : k.cs.all (AV.keyed 0 4) = true) : renB σ n hp b k := ⟨k, h, rfl, rfl, .plain rfl hk, hb⟩
theorem reRn {σ : Nat → Nat} {n b : Nat} {hp : List (Nat × Blk)} {k : Blk} (h : get (σ b) hp = some (k.ren σ)) (hb : b < n) (hk : k.cs.all (AV.keyed n 4) = true) : renB σ n hp b k := ⟨k.ren σ, h, rfl, rfl, .ren rfl hk, hb⟩
/-- Keys that stand for others: (new, old); all others for themselves. -/
def kmap (l : List (Nat × Nat)) (c : Nat) : Nat := (get c l).getD c
/-- No two of these keys stand for the same one. -/
def distinct (σ : Nat → Nat) : List (Nat × Blk) → Bool
  | [] => true
  | (b, _) :: l => (l.all fun p => !(σ b == σ p.1) || b == p.1) && distinct σ l
theorem distinct_spec {σ : Nat → Nat} : ∀ {l : List (Nat × Blk)}, distinct σ l = true → ∀ b b', b ∈ l.map Prod.fst → b' ∈ l.map Prod.fst → σ b = σ b' → b = b'
  | [], _, b, b', h, _, _ => by simp at h
  | (c, k) :: l, hd, b, b', h, h', he => by
    unfold distinct at hd
    rw [Bool.and_eq_true] at hd
    have hc : ∀ b', b' ∈ l.map Prod.fst → σ c = σ b' → c = b' := fun b' hb' e => by
      obtain ⟨p, hp, rfl⟩ := List.mem_map.1 hb'
      have := List.all_eq_true.1 hd.1 p hp
      simpa [e] using this
    rw [List.map_cons, List.mem_cons] at h h'
    rcases h with rfl | h <;> rcases h' with rfl | h'
    · rfl
    · exact hc b' h' he
    · exact (hc b h he.symm).symm
    · exact distinct_spec hd.2 b b' h h' he
/-- A state under other keys. -/
theorem to_ren {lo : Nat} {st st' : St} (km : List (Nat × Nat)) (h : lo ≤ st'.nx) (hlow : km.all (fun p => decide (lo ≤ p.1)) = true) (hinj : distinct (kmap km) st'.hp = true)
    (hE : renE (kmap km) st'.nx st.env st'.env) (hH : renHp (kmap km) st'.nx st.hp st'.hp) : St.to lo st st' := by
  have hid : ∀ b, b < lo → kmap km b = b := fun b hb => by
    unfold kmap
    cases hg : get b km with
    | none => rfl
    | some c =>
      have hm : ∀ {l : List (Nat × Nat)}, l.all (fun p => decide (lo ≤ p.1)) = true → get b l = none := by
        intro l
        induction l with
        | nil => intro _; rfl
        | cons p l ih =>
          intro hl
          simp only [List.all_cons, Bool.and_eq_true, decide_eq_true_eq] at hl
          show (if b = p.1 then some p.2 else get b l) = none
          rw [if_neg (by omega), ih hl.2]
      rw [hm hlow] at hg; cases hg
  refine ⟨h, fun F a w hlo ⟨hd, htn, S, m, hm, hE'⟩ => ⟨hd, htn, S, fun c => m (kmap km c), hm.unren hm.glob rfl (fun _ h => h) rfl (fun b k hg => ?_) (distinct_spec hinj) (fun b hb => ?_) (Nat.le_trans hlo h) (fun i hi h1 h2 => (hm.old i hi).2 h1 h2) (fun i hi hn => hm.keep i hi hn), fun t x hx => ?_⟩⟩
  · obtain ⟨k0, h1, h2, h3, h4, h5⟩ := renHp_spec hH b k hg
    exact ⟨k0, h1, h2, h3, h4, h5, (hm.live _ _ h1).2.2⟩
  · rw [hid b (Nat.lt_of_lt_of_le hb hlo)]; exact hm.agree b hb
  · obtain ⟨y, h1, hs, h2⟩ := renE_spec hE t x hx
    exact ⟨(hE' t _ h1).1, (hs _ _ _ _ _ (hE' t _ h1).2).unren 4 x h2⟩
end Go.Proofs.YtdfokoapenhalaaDoor.Ab
end
section
namespace Go.Proofs.YtdfokoapenhalaaDoor.Ab
open Go Go.RowKit Go.Shelf

/-- One operation that calls nothing, computed. -/
def rPut (n : Nat) (st : St) (d : Option Tmp) (x : AV) : Option St := match d with
  | some d => if d < n then some (st.put (some d) x) else none
  | none => some st
def rOp (P : Program) (n : Nat) (o : Oper) (st : St) : Option St :=
  match aPure P (aEv st.E) st.hp o.op with
  | some x => rPut n st o.dst x
  | none => match aHeap P (aEv st.E) st.hp st.nx o.op with
    | some (x, hp, nx) => rPut n ⟨st.env, hp, nx⟩ o.dst x
    | none => none
/-- Operations without a guard, computed. -/
def rOps (P : Program) (n : Nat) : List Oper → St → Option St
  | [], st => some st
  | o :: l, st => match o.guard with
    | some _ => none
    | none => match rOp P n o st with
      | some st' => rOps P n l st'
      | none => none
/-- Operations behind one guard that holds, computed. -/
def rOpsG (P : Program) (n : Nat) (ops : Array Oper) (j : Nat) (want : Bool) : List Oper → St → Option St
  | [], st => some st
  | o :: l, st => match o.guard with
    | some (i, b) => if i = j ∧ b = want ∧ (ops[j]?).bind (·.dst) ≠ o.dst then (match rOp P n o st with
      | some st' => rOpsG P n ops j want l st'
      | none => none) else none
    | none => none
/-- Operations behind a guard that does not hold. -/
def rSkip (n : Nat) (ops : Array Oper) (j : Nat) (want : Bool) : List Oper → St → Option St
  | [], st => some st
  | o :: l, st => match o.guard with
    | some (i, b) => if i = j ∧ b = want ∧ (ops[j]?).bind (·.dst) ≠ o.dst then (match rPut n st o.dst (.s undef) with
      | some st' => rSkip n ops j want l st'
      | none => none) else none
    | none => none
/-- The same for operations of the head of a region that draws its order. -/
def rOpH (P : Program) (n : Nat) (o : Oper) (st : St) : Option St :=
  if heapy o.op = true then none else match aPure P (aEv st.E) st.hp o.op with
  | some x => rPut n st o.dst x
  | none => none
def rOpsH (P : Program) (n : Nat) : List Oper → St → Option St
  | [], st => some st
  | o :: l, st => match o.guard with
    | some _ => none
    | none => match rOpH P n o st with
      | some st' => rOpsH P n l st'
      | none => none
/-- One of the three conditions on a region that draws its order. -/
def drawAny (l : List Oper) : Bool := drawOk l.toArray (headN l) || drawOkL l.toArray (headN l) || drawOkE l.toArray (headN l) (allocN (l.drop (headN l)))
section
variable {P : Program} {n lo : Nat} {ops : Array Oper} {K : St → Prop} {st : St} {Q : Exit → St → Prop}
theorem rPut_some {st st' : St} {d : Option Tmp} {x : AV} (h : rPut n st d x = some st') : dstOk n d ∧ st' = st.put d x := by
  cases d with
  | none => injection h with h; exact ⟨trivial, h.symm⟩
  | some d =>
    have h' : (if d < n then some (st.put (some d) x) else none) = some st' := h
    split at h'
    · rename_i hd; injection h' with h'; exact ⟨hd, h'.symm⟩
    · cases h'
theorem rOp_some {o : Oper} {st st' : St} {K KL : St → Prop} (h : rOp P n o st = some st') (hk : K st') : aOp P n o K KL st := by
  unfold rOp at h
  refine .inl ?_
  unfold aOp0
  split at h
  · rename_i x hx
    rw [hx]
    obtain ⟨h1, rfl⟩ := rPut_some h
    exact ⟨h1, hk⟩
  · rename_i hx
    rw [hx]
    split at h
    · rename_i x hp nx hy
      obtain ⟨h1, rfl⟩ := rPut_some h
      simp only [hy]
      exact ⟨h1, hk⟩
    · cases h
theorem ops_run (k : Nat) {l : List Oper} (st' : St) (h : rOps P n (l.take k) st = some st') (hk : aOps P n ops (l.drop k) K st') : aOps P n ops l K st := by
  induction k generalizing l st with
  | zero => rw [List.take_zero] at h; injection h with h; subst h; exact hk
  | succ k ih =>
    cases l with
    | nil => injection h with h; subst h; exact hk
    | cons o l =>
      rw [List.take_succ_cons] at h
      unfold rOps at h
      split at h
      · cases h
      · rename_i hg
        split at h
        · rename_i st1 h1
          unfold aOps
          rw [hg]
          exact rOp_some h1 (ih h hk)
        · cases h
theorem ops_runG (k : Nat) (j : Nat) (want : Bool) {l : List Oper} (st' : St) {b : Bool} (hy : ((ops[j]?).bind (·.dst)).bind st.E = some (.s (.bool b))) (hb : b = want) (h : rOpsG P n ops j want (l.take k) st = some st') (hk : aOps P n ops (l.drop k) K st') : aOps P n ops l K st := by
  induction k generalizing l st with
  | zero => rw [List.take_zero] at h; injection h with h; subst h; exact hk
  | succ k ih =>
    cases l with
    | nil => injection h with h; subst h; exact hk
    | cons o l =>
      rw [List.take_succ_cons] at h
      unfold rOpsG at h
      split at h
      · rename_i i b' hg
        split at h
        · rename_i hh
          obtain ⟨rfl, rfl, hne⟩ := hh
          split at h
          · rename_i st1 h1
            unfold aOps
            rw [hg]
            simp only [hy, yv, hb, if_true]
            refine rOp_some h1 (ih ?_ h hk)
            obtain ⟨t, ht, hv⟩ := bind_some' hy
            rw [ht, Option.bind_some]
            have hne' : o.dst ≠ some t := fun e => hne (by rw [ht, e])
            unfold rOp at h1
            split at h1
            · obtain ⟨_, rfl⟩ := rPut_some h1
              rw [put_E]; unfold updE; rw [if_neg hne']; exact hv
            · split at h1
              · obtain ⟨_, rfl⟩ := rPut_some h1
                rw [put_E]; unfold updE; rw [if_neg hne']; exact hv
              · cases h1
          · cases h
        · cases h
      · cases h
theorem ops_skip (k : Nat) (j : Nat) (want : Bool) {l : List Oper} (st' : St) {b : Bool} (hy : ((ops[j]?).bind (·.dst)).bind st.E = some (.s (.bool b))) (hb : b = !want) (h : rSkip n ops j want (l.take k) st = some st') (hk : aOps P n ops (l.drop k) K st') : aOps P n ops l K st := by
  induction k generalizing l st with
  | zero => rw [List.take_zero] at h; injection h with h; subst h; exact hk
  | succ k ih =>
    cases l with
    | nil => injection h with h; subst h; exact hk
    | cons o l =>
      rw [List.take_succ_cons] at h
      unfold rSkip at h
      split at h
      · rename_i i b' hg
        split at h
        · rename_i hh
          obtain ⟨rfl, rfl, hne⟩ := hh
          split at h
          · rename_i st1 h1
            obtain ⟨hd, rfl⟩ := rPut_some h1
            unfold aOps
            rw [hg]
            simp only [hy, yv]
            rw [if_neg (by rw [hb]; cases b' <;> simp)]
            refine ⟨hd, ih ?_ h hk⟩
            obtain ⟨t, ht, hv⟩ := bind_some' hy
            rw [ht, Option.bind_some]
            have hne' : o.dst ≠ some t := fun e => hne (by rw [ht, e])
            rw [put_E]; unfold updE; rw [if_neg hne']; exact hv
          · cases h
        · cases h
      · cases h
theorem ops_skipU (k : Nat) (j : Nat) (want : Bool) {l : List Oper} (st' : St) (hy : ((ops[j]?).bind (·.dst)).bind st.E = some (.s undef)) (h : rSkip n ops j want (l.take k) st = some st') (hk : aOps P n ops (l.drop k) K st') : aOps P n ops l K st := by
  induction k generalizing l st with
  | zero => rw [List.take_zero] at h; injection h with h; subst h; exact hk
  | succ k ih =>
    cases l with
    | nil => injection h with h; subst h; exact hk
    | cons o l =>
      rw [List.take_succ_cons] at h
      unfold rSkip at h
      split at h
      · rename_i i b' hg
        split at h
        · rename_i hh
          obtain ⟨rfl, rfl, hne⟩ := hh
          split at h
          · rename_i st1 h1
            obtain ⟨hd, rfl⟩ := rPut_some h1
            unfold aOps
            rw [hg]
            simp only [hy, yv, undef]
            rw [if_neg (by simp)]
            refine ⟨hd, ih ?_ h hk⟩
            obtain ⟨t, ht, hv⟩ := bind_some' hy
            rw [ht, Option.bind_some]
            have hne' : o.dst ≠ some t := fun e => hne (by rw [ht, e])
            rw [put_E]; unfold updE; rw [if_neg hne']; exact hv
          · cases h
        · cases h
      · cases h
/-- One operation without a guard, or behind a guard that holds. -/
theorem ops_one {o : Oper} {l : List Oper} (hg : o.guard = none) (h : aOp P n o (aOps P n ops l K) (aOps P n ops l K) st) : aOps P n ops (o :: l) K st := by
  unfold aOps; rw [hg]; exact h
theorem ops_oneG {o : Oper} {l : List Oper} {j : Nat} {want b : Bool} (hg : o.guard = some (j, want)) (hy : ((ops[j]?).bind (·.dst)).bind st.E = some (.s (.bool b))) (hb : b = want) (h : aOp P n o (aOps P n ops l K) (aOps P n ops l K) st) : aOps P n ops (o :: l) K st := by
  unfold aOps; rw [hg]; simp only [hy, yv, hb, if_true]; exact h
theorem op_pure {o : Oper} {KL : St → Prop} (x : AV) (h : aPure P (aEv st.E) st.hp o.op = some x) (hd : dstOk n o.dst) (hk : K (st.put o.dst x)) : aOp P n o K KL st := by
  refine .inl ?_; unfold aOp0; rw [h]; exact ⟨hd, hk⟩
theorem op_heap {o : Oper} {KL : St → Prop} (x : AV) (hp : List (Nat × Blk)) (nx : Nat) (h0 : aPure P (aEv st.E) st.hp o.op = none) (h : aHeap P (aEv st.E) st.hp st.nx o.op = some (x, hp, nx)) (hd : dstOk n o.dst) (hk : K ((St.mk st.env hp nx).put o.dst x)) : aOp P n o K KL st := by
  refine .inl ?_; unfold aOp0; rw [h0]; simp only [h]; exact ⟨hd, hk⟩
theorem op_cmp {o : Oper} {KL : St → Prop} {op : BinOp} {t ty : TypeId} {p q : Operand} {x y : AV} (b : Bool) (ho : o.op = .binOp op t p q ty) (h0 : aPure P (aEv st.E) st.hp o.op = none) (hx : aEv st.E p = some x) (hy : aEv st.E q = some y) (he : EqOk P op t x y b) (hd : dstOk n o.dst) (hk : KL (st.put o.dst (.s (.bool b)))) : aOp P n o K KL st := by
  refine .inl ?_; unfold aOp0; rw [h0, ho]; simp only [aHeap, hx, hy]; exact ⟨b, he, hd, hk⟩
theorem op_call {o : Oper} {KL : St → Prop} {c : Call} {f : Operand} {g : FuncId} {caps args args' : List AV} {hp1 hp1' : List (Nat × Blk)} {r : AV} {nx' : Nat} (ho : o.op = .call c) (hc : c.callee = .value f) (h0 : aPure P (aEv st.E) st.hp o.op = none) (hf : aEv st.E f = some (.fn g caps)) (ha : aArgs (aEv st.E) c.args.toList = some args)
    (hs : SubL (args ++ caps) args') (h : Spec P g args' hp1 st.nx r hp1' nx') (h1 : ∀ b k, get b hp1 = some k → get b st.hp = some k) (h2 : ∀ b k, get b hp1' = some k → b < st.nx → (get b hp1).isSome = true) (hd : dstOk n o.dst) (hk : KL ((St.mk st.env (hp1' ++ frame hp1 st.hp) nx').put o.dst r)) : aOp P n o K KL st := by
  refine .inl ?_; unfold aOp0; rw [h0, ho]
  have : aHeap P (aEv st.E) st.hp st.nx (.call c) = none := by unfold aHeap; simp only [hc]
  simp only [this, hc, hf, ha]
  exact ⟨args', hp1, r, hp1', nx', hs, h, h1, h2, hd, hk⟩
theorem op_callB {o : Oper} {KL : St → Prop} {c : Call} {f : Operand} {g : FuncId} {caps args args' : List AV} {hp1 hp1' : List (Nat × Blk)} {r : AV} {nx' : Nat} (ho : o.op = .call c) (hc : c.callee = .value f) (h0 : aPure P (aEv st.E) st.hp o.op = none) (hf : aEv st.E f = some (.bm g caps)) (ha : aArgs (aEv st.E) c.args.toList = some args)
    (hs : SubL (caps ++ args) args') (h : Spec P g args' hp1 st.nx r hp1' nx') (h1 : ∀ b k, get b hp1 = some k → get b st.hp = some k) (h2 : ∀ b k, get b hp1' = some k → b < st.nx → (get b hp1).isSome = true) (hd : dstOk n o.dst) (hk : KL ((St.mk st.env (hp1' ++ frame hp1 st.hp) nx').put o.dst r)) : aOp P n o K KL st := by
  refine .inl ?_; unfold aOp0; rw [h0, ho]
  have : aHeap P (aEv st.E) st.hp st.nx (.call c) = none := by unfold aHeap; simp only [hc]
  simp only [this, hc, hf, ha]
  exact ⟨args', hp1, r, hp1', nx', hs, h, h1, h2, hd, hk⟩
/-- Whom an operation calls, with what. -/
def calleeOf (st : St) (o : Oper) : Option (FuncId × List AV) := match o.op with
  | .call c => (match c.callee with
    | .value f => (match aEv st.E f, aArgs (aEv st.E) c.args.toList with
      | some (.fn g caps), some args => some (g, args ++ caps)
      | _, _ => none)
    | _ => none)
  | _ => none
theorem calleeOf_some {st : St} {o : Oper} {g : FuncId} {xs : List AV} (h : calleeOf st o = some (g, xs)) : ∃ c f caps args, o.op = .call c ∧ c.callee = .value f ∧ aEv st.E f = some (.fn g caps) ∧ aArgs (aEv st.E) c.args.toList = some args ∧ xs = args ++ caps := by
  unfold calleeOf at h
  split at h
  · rename_i c ho
    split at h
    · rename_i f hf
      split at h
      · rename_i g' caps args h1 h2
        injection h with h
        simp only [Prod.mk.injEq] at h
        obtain ⟨rfl, rfl⟩ := h
        exact ⟨c, f, caps, args, ho, hf, h1, h2, rfl⟩
      · cases h
    · cases h
  · cases h
/-- .. bound methods too. -/
def calleeX (st : St) (o : Oper) : Option (FuncId × List AV) := match o.op with
  | .call c => (match c.callee with
    | .value f => (match aEv st.E f, aArgs (aEv st.E) c.args.toList with
      | some (.fn g caps), some args => some (g, args ++ caps)
      | some (.bm g caps), some args => some (g, caps ++ args)
      | _, _ => none)
    | _ => none)
  | _ => none
theorem pure_call {ρ : Operand → Option AV} {hp : List (Nat × Blk)} {c : Call} {f : Operand} (hc : c.callee = .value f) : aPure P ρ hp (.call c) = none := by
  unfold aPure aVal; simp only [hc]
theorem calleeX_some {st : St} {o : Oper} {g : FuncId} {xs : List AV} (h : calleeX st o = some (g, xs)) : ∃ c f caps args, o.op = .call c ∧ c.callee = .value f ∧ aArgs (aEv st.E) c.args.toList = some args ∧ ((aEv st.E f = some (.fn g caps) ∧ xs = args ++ caps) ∨ (aEv st.E f = some (.bm g caps) ∧ xs = caps ++ args)) := by
  unfold calleeX at h
  split at h
  · rename_i c ho
    split at h
    · rename_i f hf
      split at h
      · rename_i g' caps args h1 h2
        injection h with h
        simp only [Prod.mk.injEq] at h
        obtain ⟨rfl, rfl⟩ := h
        exact ⟨c, f, caps, args, ho, hf, h2, .inl ⟨h1, rfl⟩⟩
      · rename_i g' caps args h1 h2
        injection h with h
        simp only [Prod.mk.injEq] at h
        obtain ⟨rfl, rfl⟩ := h
        exact ⟨c, f, caps, args, ho, hf, h2, .inr ⟨h1, rfl⟩⟩
      · cases h
    · cases h
  · cases h
theorem op_callX {o : Oper} {KL : St → Prop} {g : FuncId} {xs args' : List AV} {hp1 hp1' : List (Nat × Blk)} {r : AV} {nx' : Nat} (hcall : calleeX st o = some (g, xs))
    (hs : SubL xs args') (h : Spec P g args' hp1 st.nx r hp1' nx') (h1 : ∀ b k, get b hp1 = some k → get b st.hp = some k) (h2 : ∀ b k, get b hp1' = some k → b < st.nx → (get b hp1).isSome = true) (hd : dstOk n o.dst) (hk : KL ((St.mk st.env (hp1' ++ frame hp1 st.hp) nx').put o.dst r)) : aOp P n o K KL st := by
  obtain ⟨c, f, caps, args, ho, hc, ha, ⟨hf, rfl⟩ | ⟨hf, rfl⟩⟩ := calleeX_some hcall
  · exact op_call ho hc (by rw [ho]; exact pure_call hc) hf ha hs h h1 h2 hd hk
  · exact op_callB ho hc (by rw [ho]; exact pure_call hc) hf ha hs h h1 h2 hd hk
theorem heap_call {ρ : Operand → Option AV} {hp : List (Nat × Blk)} {nx : Nat} {c : Call} {f : Operand} (hc : c.callee = .value f) : aHeap P ρ hp nx (.call c) = none := by
  unfold aHeap; simp only [hc]
/-- What lies under the keys of a list of blocks. -/
def look (hp : List (Nat × Blk)) (l : List (Nat × Blk)) : List (Option Blk) := l.map fun p => get p.1 hp
theorem look_spec {hp : List (Nat × Blk)} : ∀ {l : List (Nat × Blk)}, look hp l = l.map (fun p => some p.2) → ∀ b k, get b l = some k → get b hp = some k
  | [], _, b, k, h => by cases h
  | (c, q) :: l, hs, b, k, h => by
    have h1 : get c hp = some q := (List.cons.inj hs).1
    have h2 : look hp l = l.map (fun p => some p.2) := (List.cons.inj hs).2
    have h' : (if b = c then some q else get b l) = some k := h
    split at h'
    · rename_i e; subst e; injection h' with h'; subst h'; exact h1
    · exact look_spec h2 b k h'
/-- A contract under its own keys 0, 1, ..: with what is needed to put it under others. -/
structure SpecK (P : Program) (pk : List Nat) (g : FuncId) (args : List AV) (hp : List (Nat × Blk)) (n1 : Nat) (r : AV) (hp' : List (Nat × Blk)) (n' : Nat) : Prop where
  spec : Spec P g args hp n1 r hp' n'
  kargs : args.all (AV.keyed n1 4) = true
  khp : hpOk n1 pk hp
  kr : r.keyed n' 4 = true
  khp' : hpOk n' pk hp'
  same : (hp'.all fun p => decide (n1 ≤ p.1) || (get p.1 hp).isSome) = true
def dstB (n : Nat) : Option Tmp → Bool
  | some d => decide (d < n)
  | none => true
theorem dstB_ok {n : Nat} {d : Option Tmp} (h : dstB n d = true) : dstOk n d := by
  cases d with
  | none => trivial
  | some d => exact (of_decide_eq_true h : d < n)
def noDup : List Nat → Bool
  | [] => true
  | x :: l => !l.contains x && noDup l
theorem noDup_ok : ∀ {l : List Nat}, noDup l = true → l.Nodup
  | [], _ => List.nodup_nil
  | x :: l, h => by
    unfold noDup at h
    rw [Bool.and_eq_true] at h
    exact List.nodup_cons.2 ⟨by simpa using h.1, noDup_ok h.2⟩
def keysOk (ks : List Nat) (n1 nx : Nat) : Bool := (ks.length == n1) && ks.all (fun k => decide (k < nx)) && noDup ks
theorem spec_at {ks pk : List Nat} {g : FuncId} {args : List AV} {hp hp' : List (Nat × Blk)} {n1 nx n' : Nat} {r : AV} (h : SpecK P pk g args hp n1 r hp' n') (hks : keysOk ks n1 nx = true) :
    Spec P g (args.map (AV.ren (sg ks nx) 4)) (renH (sg ks nx) pk hp) nx (r.ren (sg ks nx) 4) (renH (sg ks nx) pk hp') (nx + (n' - n1)) ∧ ∀ b k, get b (renH (sg ks nx) pk hp') = some k → b < nx → (get b (renH (sg ks nx) pk hp)).isSome = true := by
  unfold keysOk at hks
  simp only [Bool.and_eq_true, beq_iff_eq] at hks
  obtain ⟨⟨rfl, hks⟩, hn⟩ := hks
  have hks' : ∀ k ∈ ks, k < nx := fun k hk => of_decide_eq_true (List.all_eq_true.1 hks k hk)
  have hn := noDup_ok hn
  have hinj : ∀ c c', sg ks nx c = sg ks nx c' → c = c' := fun c c' => sg_inj hks' hn
  refine ⟨spec_ren ks pk nx h.spec hks' hn h.kargs h.khp h.kr h.khp', fun b k hg hlt => ?_⟩
  obtain ⟨c', hc', rfl⟩ := get_renH_some hg
  rw [get_renH (fun c _ e => hinj c c' e)] at hg ⊢
  obtain ⟨p, hp, rfl⟩ := List.mem_map.1 hc'
  have := List.all_eq_true.1 h.same p hp
  simp only [Bool.or_eq_true, decide_eq_true_eq] at this
  rcases this with h3 | h3
  · rw [sg_ge h3] at hlt; omega
  · rw [Option.isSome_map]; exact h3
/-- A call, by a contract under its own keys; arguments that may stand for more. -/
theorem op_callS {o : Oper} {KL : St → Prop} {g : FuncId} {args : List AV} {hp1 hp1' : List (Nat × Blk)} {r : AV} {n1 n' : Nat} {pk : List Nat} (ks : List Nat) (h : SpecK P pk g args hp1 n1 r hp1' n') (xs : List AV) (hcall : calleeX st o = some (g, xs)) (hs : SubL xs (args.map (AV.ren (sg ks st.nx) 4)))
    (hks : keysOk ks n1 st.nx = true) (hl : look st.hp (renH (sg ks st.nx) pk hp1) = (renH (sg ks st.nx) pk hp1).map (fun p => some p.2)) (hd : dstB n o.dst = true)
    (hk : KL ((St.mk st.env (renH (sg ks st.nx) pk hp1' ++ frame (renH (sg ks st.nx) pk hp1) st.hp) (st.nx + (n' - n1))).put o.dst (r.ren (sg ks st.nx) 4))) : aOp P n o K KL st := by
  obtain ⟨h3, h4⟩ := spec_at h hks
  exact op_callX hcall hs h3 (look_spec hl) h4 (dstB_ok hd) hk
theorem op_callE {o : Oper} {KL : St → Prop} {g : FuncId} {args : List AV} {hp1 hp1' : List (Nat × Blk)} {r : AV} {n1 n' : Nat} {pk : List Nat} (ks : List Nat) (h : SpecK P pk g args hp1 n1 r hp1' n') (hcall : calleeX st o = some (g, args.map (AV.ren (sg ks st.nx) 4)))
    (hks : keysOk ks n1 st.nx = true) (hl : look st.hp (renH (sg ks st.nx) pk hp1) = (renH (sg ks st.nx) pk hp1).map (fun p => some p.2)) (hd : dstB n o.dst = true)
    (hk : KL ((St.mk st.env (renH (sg ks st.nx) pk hp1' ++ frame (renH (sg ks st.nx) pk hp1) st.hp) (st.nx + (n' - n1))).put o.dst (r.ren (sg ks st.nx) 4))) : aOp P n o K KL st :=
  op_callS ks h _ hcall (SubL.refl _) hks hl hd hk
theorem ren_none (σ : Nat → Nat) : ∀ (d : Nat) (x : AV), AV.keyed 0 d x = true → x.ren σ d = x := by
  intro d
  induction d with
  | zero => intro x hx; cases x <;> first | rfl | (simp [AV.keyed] at hx; done)
  | succ d ih =>
    intro x hx
    have part : ∀ (cs : List AV), cs.all (AV.keyed 0 d) = true → cs.map (AV.ren σ d) = cs := fun cs hc => by
      rw [List.map_congr_left (g := id) (fun a ha => ih a (List.all_eq_true.1 hc a ha)), List.map_id]
    cases x with
    | agg cs => show AV.agg _ = _; rw [part cs (by simpa [AV.keyed] using hx)]
    | tup cs => show AV.tup _ = _; rw [part cs (by simpa [AV.keyed] using hx)]
    | fn f cs => show AV.fn f _ = _; rw [part cs (by simpa [AV.keyed] using hx)]
    | bm f cs => show AV.bm f _ = _; rw [part cs (by simpa [AV.keyed] using hx)]
    | own b k => simp [AV.keyed] at hx
    | ptr b k => simp [AV.keyed] at hx
    | mp b => simp [AV.keyed] at hx
    | asl b k => simp [AV.keyed] at hx
    | _ => rfl
theorem rens_none (σ : Nat → Nat) (l : List AV) (h : l.all (AV.keyed 0 4) = true) : l.map (AV.ren σ 4) = l := by
  rw [List.map_congr_left (g := id) (fun a ha => ren_none σ 4 a (List.all_eq_true.1 h a ha)), List.map_id]
/-- A call of a function that is given no blocks and hands none back. -/
theorem op_callPS {o : Oper} {KL : St → Prop} {g : FuncId} {args : List AV} {r : AV} (h : SpecK P [] g args [] 0 r [] 0) (xs : List AV) (hcall : calleeX st o = some (g, xs)) (hs : SubL xs args) (hd : dstB n o.dst = true) (hk : KL (st.put o.dst r)) : aOp P n o K KL st := by
  refine op_callS [] h xs hcall (by rw [rens_none _ _ h.kargs]; exact hs) rfl rfl hd ?_
  rw [ren_none _ 4 r h.kr]
  show KL ((St.mk st.env ([] ++ frame [] st.hp) st.nx).put o.dst r)
  rw [List.nil_append, frame_nil]; exact hk
theorem op_callP {o : Oper} {KL : St → Prop} {g : FuncId} {args : List AV} {r : AV} (h : SpecK P [] g args [] 0 r [] 0) (hcall : calleeX st o = some (g, args)) (hd : dstB n o.dst = true) (hk : KL (st.put o.dst r)) : aOp P n o K KL st :=
  op_callPS h args hcall (SubL.refl _) hd hk
/-- In a region that draws its order: the head's operations. -/
theorem mix_run (k : Nat) {l : List Oper} (st' : St) (h : rOpsH P n (l.take k) st = some st') (hk : aMix P n ops (l.drop k) K st') : aMix P n ops l K st := by
  induction k generalizing l st with
  | zero => rw [List.take_zero] at h; injection h with h; subst h; exact hk
  | succ k ih =>
    cases l with
    | nil => injection h with h; subst h; exact hk
    | cons o l =>
      rw [List.take_succ_cons] at h
      unfold rOpsH at h
      split at h
      · cases h
      · rename_i hg
        split at h
        · rename_i st1 h1
          unfold aMix
          unfold rOpH at h1
          split at h1
          · cases h1
          · rename_i hh
            rw [if_neg hh, hg]
            split at h1
            · rename_i x hx
              obtain ⟨hd, rfl⟩ := rPut_some h1
              unfold aOpH
              simp only [hx]
              exact ⟨hd, ih h hk⟩
            · cases h1
        · cases h
theorem mix_one {o : Oper} {l : List Oper} (hh : heapy o.op = false) (hg : o.guard = none) (h : aOpH P n o (aMix P n ops l K) (aMix P n ops l K) st) : aMix P n ops (o :: l) K st := by
  unfold aMix; rw [if_neg (by rw [hh]; decide), hg]; exact h
theorem mix_oneG {o : Oper} {l : List Oper} {j : Nat} {want b : Bool} (hh : heapy o.op = false) (hg : o.guard = some (j, want)) (hy : ((ops[j]?).bind (·.dst)).bind st.E = some (.s (.bool b))) (hb : b = want) (h : aOpH P n o (aMix P n ops l K) (aMix P n ops l K) st) : aMix P n ops (o :: l) K st := by
  unfold aMix; rw [if_neg (by rw [hh]; decide), hg]; simp only [hy, yv, hb, if_true]; exact h
theorem mix_skip {o : Oper} {l : List Oper} {j : Nat} {want b : Bool} (hh : heapy o.op = false) (hg : o.guard = some (j, want)) (hy : ((ops[j]?).bind (·.dst)).bind st.E = some (.s (.bool b))) (hb : b = !want) (hd : dstOk n o.dst) (h : aMix P n ops l K (st.put o.dst (.s undef))) : aMix P n ops (o :: l) K st := by
  unfold aMix; rw [if_neg (by rw [hh]; decide), hg]; simp only [hy, yv]
  rw [if_neg (by rw [hb]; cases want <;> simp)]
  exact ⟨hd, h⟩
theorem mix_ops {o : Oper} {l : List Oper} (hh : heapy o.op = true) (h : aOps P n ops (o :: l) K st) : aMix P n ops (o :: l) K st := by
  unfold aMix; rw [if_pos hh]; exact h
theorem opH_pure {o : Oper} {KL : St → Prop} (x : AV) (h : aPure P (aEv st.E) st.hp o.op = some x) (hd : dstOk n o.dst) (hk : K (st.put o.dst x)) : aOpH P n o K KL st := by
  unfold aOpH; rw [h]; exact ⟨hd, hk⟩
theorem opH_cmp {o : Oper} {KL : St → Prop} {op : BinOp} {t ty : TypeId} {p q : Operand} {x y : AV} (b : Bool) (ho : o.op = .binOp op t p q ty) (h0 : aPure P (aEv st.E) st.hp o.op = none) (hx : aEv st.E p = some x) (hy : aEv st.E q = some y) (he : EqOk P op t x y b) (hd : dstOk n o.dst) (hk : KL (st.put o.dst (.s (.bool b)))) : aOpH P n o K KL st := by
  unfold aOpH; rw [h0, ho]; simp only [hx, hy]; exact ⟨b, he, hd, hk⟩
/-- A call that leaves all blocks as they are. -/
theorem opH_callS {o : Oper} {KL : St → Prop} {g : FuncId} {args : List AV} {hp1 : List (Nat × Blk)} {r : AV} {n1 : Nat} {pk : List Nat} (ks : List Nat) (h : SpecK P pk g args hp1 n1 r hp1 n1) (xs : List AV) (hcall : calleeOf st o = some (g, xs)) (hs : SubL xs (args.map (AV.ren (sg ks st.nx) 4)))
    (hks : keysOk ks n1 st.nx = true) (hl : look st.hp (renH (sg ks st.nx) pk hp1) = (renH (sg ks st.nx) pk hp1).map (fun p => some p.2)) (hd : dstB n o.dst = true) (hk : KL (st.put o.dst (r.ren (sg ks st.nx) 4))) : aOpH P n o K KL st := by
  obtain ⟨c, f, caps, args0, ho, hc, h1, h2, rfl⟩ := calleeOf_some hcall
  have h3 := (spec_at h hks).1
  rw [Nat.sub_self, Nat.add_zero] at h3
  unfold aOpH
  rw [ho]
  simp only [pure_call hc, hc, h1, h2]
  exact ⟨_, _, _, hs, h3, look_spec hl, dstB_ok hd, hk⟩
theorem opH_callE {o : Oper} {KL : St → Prop} {g : FuncId} {args : List AV} {hp1 : List (Nat × Blk)} {r : AV} {n1 : Nat} {pk : List Nat} (ks : List Nat) (h : SpecK P pk g args hp1 n1 r hp1 n1) (hcall : calleeOf st o = some (g, args.map (AV.ren (sg ks st.nx) 4)))
    (hks : keysOk ks n1 st.nx = true) (hl : look st.hp (renH (sg ks st.nx) pk hp1) = (renH (sg ks st.nx) pk hp1).map (fun p => some p.2)) (hd : dstB n o.dst = true) (hk : KL (st.put o.dst (r.ren (sg ks st.nx) 4))) : aOpH P n o K KL st :=
  opH_callS ks h _ hcall (SubL.refl _) hks hl hd hk
theorem opH_callPS {o : Oper} {KL : St → Prop} {g : FuncId} {args : List AV} {r : AV} (h : SpecK P [] g args [] 0 r [] 0) (xs : List AV) (hcall : calleeOf st o = some (g, xs)) (hs : SubL xs args) (hd : dstB n o.dst = true) (hk : KL (st.put o.dst r)) : aOpH P n o K KL st := by
  refine opH_callS [] h xs hcall (by rw [rens_none _ _ h.kargs]; exact hs) rfl rfl hd ?_
  rw [ren_none _ 4 r h.kr]; exact hk
theorem opH_callP {o : Oper} {KL : St → Prop} {g : FuncId} {args : List AV} {r : AV} (h : SpecK P [] g args [] 0 r [] 0) (hcall : calleeOf st o = some (g, args)) (hd : dstB n o.dst = true) (hk : KL (st.put o.dst r)) : aOpH P n o K KL st :=
  opH_callPS h args hcall (SubL.refl _) hd hk
/-- A run that need not be told: its end is named by the run itself. -/
theorem ops_runT (k : Nat) {l : List Oper} (h : (rOps P n (l.take k) st).isSome = true) (hk : aOps P n ops (l.drop k) K ((rOps P n (l.take k) st).getD st)) : aOps P n ops l K st := by
  obtain ⟨st', hs⟩ := Option.isSome_iff_exists.1 h
  exact ops_run k st' hs (by rw [hs] at hk; exact hk)
theorem ops_runGT (k : Nat) (j : Nat) (want : Bool) {l : List Oper} {b : Bool} (hy : ((ops[j]?).bind (·.dst)).bind st.E = some (.s (.bool b))) (hb : b = want) (h : (rOpsG P n ops j want (l.take k) st).isSome = true) (hk : aOps P n ops (l.drop k) K ((rOpsG P n ops j want (l.take k) st).getD st)) : aOps P n ops l K st := by
  obtain ⟨st', hs⟩ := Option.isSome_iff_exists.1 h
  exact ops_runG k j want st' hy hb hs (by rw [hs] at hk; exact hk)
theorem ops_skipT (k : Nat) (j : Nat) (want : Bool) {l : List Oper} {b : Bool} (hy : ((ops[j]?).bind (·.dst)).bind st.E = some (.s (.bool b))) (hb : b = !want) (h : (rSkip n ops j want (l.take k) st).isSome = true) (hk : aOps P n ops (l.drop k) K ((rSkip n ops j want (l.take k) st).getD st)) : aOps P n ops l K st := by
  obtain ⟨st', hs⟩ := Option.isSome_iff_exists.1 h
  exact ops_skip k j want st' hy hb hs (by rw [hs] at hk; exact hk)
theorem ops_skipUT (k : Nat) (j : Nat) (want : Bool) {l : List Oper} (hy : ((ops[j]?).bind (·.dst)).bind st.E = some (.s undef)) (h : (rSkip n ops j want (l.take k) st).isSome = true) (hk : aOps P n ops (l.drop k) K ((rSkip n ops j want (l.take k) st).getD st)) : aOps P n ops l K st := by
  obtain ⟨st', hs⟩ := Option.isSome_iff_exists.1 h
  exact ops_skipU k j want st' hy hs (by rw [hs] at hk; exact hk)
theorem mix_runT (k : Nat) {l : List Oper} (h : (rOpsH P n (l.take k) st).isSome = true) (hk : aMix P n ops (l.drop k) K ((rOpsH P n (l.take k) st).getD st)) : aMix P n ops l K st := by
  obtain ⟨st', hs⟩ := Option.isSome_iff_exists.1 h
  exact mix_run k st' hs (by rw [hs] at hk; exact hk)
theorem ops_nil {l : List Oper} (hl : l = []) (h : K st) : aOps P n ops l K st := by subst hl; exact h
theorem mix_nil {l : List Oper} (hl : l = []) (h : K st) : aMix P n ops l K st := by subst hl; exact h
theorem ops_at {l : List Oper} (o : Oper) (l' : List Oper) (hl : l = o :: l') (h : aOps P n ops (o :: l') K st) : aOps P n ops l K st := by subst hl; exact h
theorem mix_at {l : List Oper} (o : Oper) (l' : List Oper) (hl : l = o :: l') (h : aMix P n ops (o :: l') K st) : aMix P n ops l K st := by subst hl; exact h
/-- The slots of a state that is given. -/
def trimTo (st' : St) : Option St → Option St
  | some s => some ⟨keepE (st'.env.map Prod.fst) s.env, s.hp, s.nx⟩
  | none => none
theorem trim_some {st' : St} {o : Option St} (h : trimTo st' o = some st') (hl : lo ≤ st'.nx) : ∃ s, o = some s ∧ St.to lo s st' := by
  cases o with
  | none => cases h
  | some s =>
    injection h with h
    refine ⟨s, rfl, ?_⟩
    have := to_keep (lo := lo) (st := s) (st'.env.map Prod.fst) (by rw [← h] at hl; exact hl)
    rw [h] at this; exact this
/-- A region that calls nothing, and what comes behind it. -/
theorem reg_seq {id : Nat} {l : List Oper} {y : Code} (st' : St) (h : trimTo st' (rOps P n l st) = some st') (hl : lo ≤ st'.nx) (hk : awp P n lo y Q st') : awp P n lo (.seq (.region id l.toArray false) y) Q st := by
  obtain ⟨s, hs, ht⟩ := trim_some h hl
  exact awp_seq (fun K hK => awp_region (ops_run l.length s (by rw [List.take_length]; exact hs) (by rw [List.drop_length]; exact hK _ _ ht hk)))
theorem ops_fin {A : St → Prop} {l : List Oper} (hK : ∀ st st', St.to lo st st' → A st' → K st) (st' : St) (h : trimTo st' (rOps P n l st) = some st') (hl : lo ≤ st'.nx) (hk : A st') : aOps P n ops l K st := by
  obtain ⟨s, hs, ht⟩ := trim_some h hl
  exact ops_run l.length s (by rw [List.take_length]; exact hs) (by rw [List.drop_length]; exact hK _ _ ht hk)
/-- What an operation of a list is. -/
def atOp (L : List Oper) (j : Nat) : Option (Op × Option Tmp × Option (Nat × Bool)) := match L[j]? with
  | some o => some (o.op, o.dst, o.guard)
  | none => none
theorem atOp_some {L : List Oper} {j : Nat} {op : Op} {d : Option Tmp} {g : Option (Nat × Bool)} (h : atOp L j = some (op, d, g)) : ∃ o, L.drop j = o :: L.drop (j + 1) ∧ o.op = op ∧ o.dst = d ∧ o.guard = g := by
  unfold atOp at h
  split at h
  · rename_i o ho
    injection h with h
    simp only [Prod.mk.injEq] at h
    obtain ⟨h1, h2⟩ := List.getElem?_eq_some_iff.1 ho
    exact ⟨o, by rw [List.drop_eq_getElem_cons h1, h2], h.1, h.2.1, h.2.2⟩
  · cases h
theorem aOp_bare {o : Oper} {KL : St → Prop} (h : aOp P n ⟨o.dst, o.op, 0, "", #[], none⟩ K KL st) : aOp P n o K KL st := h
theorem aOpH_bare {o : Oper} {KL : St → Prop} (h : aOpH P n ⟨o.dst, o.op, 0, "", #[], none⟩ K KL st) : aOpH P n o K KL st := h
theorem awp_reg0 {id : Nat} {l : List Oper} (h : aOps P n l.toArray (l.drop 0) (Q .normal) st) : awp P n lo (.region id l.toArray false) Q st := awp_region h
theorem awp_mix0 {id : Nat} {l : List Oper} (hm : P.follows .mixedOrders = true) (hd : drawAny l = true) (h : aMix P n l.toArray (l.drop 0) (Q .normal) st) : awp P n lo (.region id l.toArray true) Q st := by
  unfold drawAny at hd
  rw [Bool.or_eq_true, Bool.or_eq_true] at hd
  rcases hd with (hd | hd) | hd
  · exact awp_mix hm hd h
  · exact awp_mixL hm hd h
  · exact awp_mixE _ hm hd h
variable {L : List Oper}
theorem drop_to (j m : Nat) (h : Nat.ble j m = true) : (L.drop j).drop (m - j) = L.drop m := by
  have := Nat.le_of_ble_eq_true h
  rw [List.drop_drop]; congr 1; omega
theorem d_run (j m : Nat) (hm : Nat.ble j m = true) (h : (rOps P n ((L.drop j).take (m - j)) st).isSome = true) (hk : aOps P n ops (L.drop m) K ((rOps P n ((L.drop j).take (m - j)) st).getD st)) : aOps P n ops (L.drop j) K st :=
  ops_runT (m - j) h (by rw [drop_to j m hm]; exact hk)
theorem d_runG (j m g : Nat) (want : Bool) (hm : Nat.ble j m = true) {b : Bool} (hy : ((ops[g]?).bind (·.dst)).bind st.E = some (.s (.bool b))) (hb : b = want) (h : (rOpsG P n ops g want ((L.drop j).take (m - j)) st).isSome = true) (hk : aOps P n ops (L.drop m) K ((rOpsG P n ops g want ((L.drop j).take (m - j)) st).getD st)) : aOps P n ops (L.drop j) K st :=
  ops_runGT (m - j) g want hy hb h (by rw [drop_to j m hm]; exact hk)
theorem d_skip (j m g : Nat) (want : Bool) (hm : Nat.ble j m = true) {b : Bool} (hy : ((ops[g]?).bind (·.dst)).bind st.E = some (.s (.bool b))) (hb : b = !want) (h : (rSkip n ops g want ((L.drop j).take (m - j)) st).isSome = true) (hk : aOps P n ops (L.drop m) K ((rSkip n ops g want ((L.drop j).take (m - j)) st).getD st)) : aOps P n ops (L.drop j) K st :=
  ops_skipT (m - j) g want hy hb h (by rw [drop_to j m hm]; exact hk)
theorem d_skipU (j m g : Nat) (want : Bool) (hm : Nat.ble j m = true) (hy : ((ops[g]?).bind (·.dst)).bind st.E = some (.s undef)) (h : (rSkip n ops g want ((L.drop j).take (m - j)) st).isSome = true) (hk : aOps P n ops (L.drop m) K ((rSkip n ops g want ((L.drop j).take (m - j)) st).getD st)) : aOps P n ops (L.drop j) K st :=
  ops_skipUT (m - j) g want hy h (by rw [drop_to j m hm]; exact hk)
theorem d_one (j : Nat) (op : Op) (d : Option Tmp) (ho : atOp L j = some (op, d, none)) (h : aOp P n ⟨d, op, 0, "", #[], none⟩ (aOps P n ops (L.drop (j + 1)) K) (aOps P n ops (L.drop (j + 1)) K) st) : aOps P n ops (L.drop j) K st := by
  obtain ⟨o, hl, rfl, rfl, hg⟩ := atOp_some ho
  rw [hl]; exact ops_one hg (aOp_bare h)
theorem d_oneG (j : Nat) (op : Op) (d : Option Tmp) (g : Nat) (want : Bool) {b : Bool} (ho : atOp L j = some (op, d, some (g, want))) (hy : ((ops[g]?).bind (·.dst)).bind st.E = some (.s (.bool b))) (hb : b = want) (h : aOp P n ⟨d, op, 0, "", #[], none⟩ (aOps P n ops (L.drop (j + 1)) K) (aOps P n ops (L.drop (j + 1)) K) st) : aOps P n ops (L.drop j) K st := by
  obtain ⟨o, hl, rfl, rfl, hg⟩ := atOp_some ho
  rw [hl]; exact ops_oneG hg hy hb (aOp_bare h)
theorem d_nil (j : Nat) (hl : (L.drop j).isEmpty = true) (h : K st) : aOps P n ops (L.drop j) K st := ops_nil (List.isEmpty_iff.1 hl) h
theorem m_nil (j : Nat) (hl : (L.drop j).isEmpty = true) (h : K st) : aMix P n ops (L.drop j) K st := mix_nil (List.isEmpty_iff.1 hl) h
theorem m_run (j m : Nat) (hm : Nat.ble j m = true) (h : (rOpsH P n ((L.drop j).take (m - j)) st).isSome = true) (hk : aMix P n ops (L.drop m) K ((rOpsH P n ((L.drop j).take (m - j)) st).getD st)) : aMix P n ops (L.drop j) K st :=
  mix_runT (m - j) h (by rw [drop_to j m hm]; exact hk)
theorem m_one (j : Nat) (op : Op) (d : Option Tmp) (ho : atOp L j = some (op, d, none)) (hh : heapy op = false) (h : aOpH P n ⟨d, op, 0, "", #[], none⟩ (aMix P n ops (L.drop (j + 1)) K) (aMix P n ops (L.drop (j + 1)) K) st) : aMix P n ops (L.drop j) K st := by
  obtain ⟨o, hl, rfl, rfl, hg⟩ := atOp_some ho
  rw [hl]; exact mix_one hh hg (aOpH_bare h)
theorem m_oneG (j : Nat) (op : Op) (d : Option Tmp) (g : Nat) (want : Bool) {b : Bool} (ho : atOp L j = some (op, d, some (g, want))) (hh : heapy op = false) (hy : ((ops[g]?).bind (·.dst)).bind st.E = some (.s (.bool b))) (hb : b = want) (h : aOpH P n ⟨d, op, 0, "", #[], none⟩ (aMix P n ops (L.drop (j + 1)) K) (aMix P n ops (L.drop (j + 1)) K) st) : aMix P n ops (L.drop j) K st := by
  obtain ⟨o, hl, rfl, rfl, hg⟩ := atOp_some ho
  rw [hl]; exact mix_oneG hh hg hy hb (aOpH_bare h)
theorem m_skip (j : Nat) (op : Op) (d : Option Tmp) (g : Nat) (want : Bool) {b : Bool} (ho : atOp L j = some (op, d, some (g, want))) (hh : heapy op = false) (hy : ((ops[g]?).bind (·.dst)).bind st.E = some (.s (.bool b))) (hb : b = !want) (hd : dstB n d = true) (h : aMix P n ops (L.drop (j + 1)) K (st.put d (.s undef))) : aMix P n ops (L.drop j) K st := by
  obtain ⟨o, hl, rfl, rfl, hg⟩ := atOp_some ho
  rw [hl]; exact mix_skip hh hg hy hb (dstB_ok hd) h
theorem m_skipU (j : Nat) (op : Op) (d : Option Tmp) (g : Nat) (want : Bool) (ho : atOp L j = some (op, d, some (g, want))) (hh : heapy op = false) (hy : ((ops[g]?).bind (·.dst)).bind st.E = some (.s undef)) (hd : dstB n d = true) (h : aMix P n ops (L.drop (j + 1)) K (st.put d (.s undef))) : aMix P n ops (L.drop j) K st := by
  obtain ⟨o, hl, rfl, rfl, hg⟩ := atOp_some ho
  rw [hl]
  unfold aMix
  rw [if_neg (by rw [hh]; decide), hg]
  simp only [hy, yv, undef]
  rw [if_neg (by simp)]
  exact ⟨dstB_ok hd, h⟩
theorem m_ops (j : Nat) (op : Op) (d : Option Tmp) (g : Option (Nat × Bool)) (ho : atOp L j = some (op, d, g)) (hh : heapy op = true) (h : aOps P n ops (L.drop j) K st) : aMix P n ops (L.drop j) K st := by
  obtain ⟨o, hl, rfl, rfl, hg⟩ := atOp_some ho
  rw [hl] at h ⊢; exact mix_ops hh h
/-- A head and a tail, computed. -/
def rMix (P : Program) (n : Nat) : List Oper → St → Option St
  | [], st => some st
  | o :: l, st => if heapy o.op = true then rOps P n (o :: l) st else match o.guard with
    | some _ => none
    | none => match rOpH P n o st with
      | some st' => rMix P n l st'
      | none => none
theorem mix_all {st' : St} : ∀ {l : List Oper} {st : St}, rMix P n l st = some st' → K st' → aMix P n ops l K st
  | [], st, h, hk => by injection h with h; subst h; exact hk
  | o :: l, st, h, hk => by
    unfold rMix at h
    split at h
    · rename_i hh
      exact mix_ops hh (ops_run (l.length + 1) st' (by rw [show l.length + 1 = (o :: l).length from rfl, List.take_length]; exact h) (by rw [show l.length + 1 = (o :: l).length from rfl, List.drop_length]; exact hk))
    · rename_i hh
      split at h
      · cases h
      · rename_i hg
        split at h
        · rename_i st1 h1
          refine mix_one (by simpa using hh) hg ?_
          unfold rOpH at h1
          rw [if_neg hh] at h1
          split at h1
          · rename_i x hx
            obtain ⟨hd, rfl⟩ := rPut_some h1
            exact opH_pure x hx hd (mix_all h hk)
          · cases h1
        · cases h
theorem mix_fin {A : St → Prop} {l : List Oper} (hK : ∀ st st', St.to lo st st' → A st' → K st) (st' : St) (h : trimTo st' (rMix P n l st) = some st') (hl : lo ≤ st'.nx) (hk : A st') : aMix P n ops l K st := by
  obtain ⟨s, hs, ht⟩ := trim_some h hl
  exact mix_all hs (hK _ _ ht hk)
/-- What a region yields whose operations may come up in whatever order: the values, the new rows, the slots. -/
def fRun (P : Program) (n : Nat) (hp : List (Nat × Blk)) (nx : Nat) : List (Nat × AV) → Nat → List Oper → List Bool → Option (List AV × List (Option Blk) × List (Nat × AV))
  | env, _, [], [] => some ([], [], env)
  | env, i, o :: l, c :: cs => if o.guard = none ∧ dstB n o.dst = true then
      (if c = true then (match aBuildOwn P (aEv (oldE nx fun t => get t env)) hp nx o.op with
        | some (.own _ k, (_, blk) :: _, _) => if blk.cs.all (AV.keyed 0 4) = true then some (AV.own (nx + i) k, some blk) else none
        | _ => none)
      else match o.op with
        | .assign (.tmp t) => (get t env).map fun x => (x, none)
        | .move (.tmp t) => (get t env).map fun x => (x, none)
        | op => (match aPure P (aEv (oldE nx fun t => get t env)) hp op with
          | some x => if x.keyed nx 4 = true then some (x, none) else none
          | none => none)).bind fun r =>
      (fRun P n hp nx (St.put ⟨env, hp, nx⟩ o.dst r.1).env (i + 1) l cs).map fun (q : List AV × List (Option Blk) × List (Nat × AV)) => (r.1 :: q.1, r.2 :: q.2.1, q.2.2)
    else none
  | _, _, _, _ => none
theorem buildOwn_shape {P : Program} {ρ : Operand → Option AV} {hp : List (Nat × Blk)} {nx : Nat} {op : Op} {r : AV × List (Nat × Blk) × Nat} (h : aBuildOwn P ρ hp nx op = some r) : ∃ k blk, r = (.own nx k, (nx, blk) :: hp, nx + 1) := by
  unfold aBuildOwn at h
  split at h
  · split at h
    · split at h
      · split at h
        · obtain ⟨cs, _, rfl⟩ := map_some' h
          exact ⟨_, _, rfl⟩
        · cases h
      · cases h
    · cases h
  · cases h
theorem fRun_spec {P : Program} {n : Nat} {hp : List (Nat × Blk)} {nx : Nat} : ∀ (l : List Oper) (cs : List Bool) (env : List (Nat × AV)) (i : Nat) {xs : List AV} {bs : List (Option Blk)} {env' : List (Nat × AV)}, fRun P n hp nx env i l cs = some (xs, bs, env') →
    FRun P n hp nx (fun t => get t env) i l xs bs ∧ (fun t => get t env') = EL (fun _ => true) (fun t => get t env) i l xs ∧ bs.length = l.length ∧ ∀ (j : Nat) (q : Blk), bs[j]? = some (some q) → q.cs.all (AV.keyed 0 4) = true
  | [], [], env, i, xs, bs, env', h => by
    unfold fRun at h
    injection h with h; simp only [Prod.mk.injEq] at h
    obtain ⟨rfl, rfl, rfl⟩ := h
    exact ⟨trivial, rfl, rfl, fun j q h => by simp at h⟩
  | [], c :: cs, env, i, xs, bs, env', h => by simp [fRun] at h
  | o :: l, [], env, i, xs, bs, env', h => by simp [fRun] at h
  | o :: l, c :: cs, env, i, xs, bs, env', h => by
    unfold fRun at h
    split at h
    · rename_i hh
      obtain ⟨⟨x, q⟩, hx, h⟩ := bind_some' h
      obtain ⟨⟨xs1, bs1, env1⟩, h1, h⟩ := map_some' h
      simp only [Prod.mk.injEq] at h
      obtain ⟨rfl, rfl, rfl⟩ := h
      obtain ⟨i1, i2, i3, i4⟩ := fRun_spec l cs _ (i + 1) h1
      have hE : (fun t => get t (St.put ⟨env, hp, nx⟩ o.dst x).env) = updE (fun t => get t env) o.dst x := put_E ⟨env, hp, nx⟩ o.dst x
      simp only at i1 i2
      rw [hE] at i1 i2
      have hop : FOp P n hp nx (fun t => get t env) i o x q ∧ ∀ k, q = some k → k.cs.all (AV.keyed 0 4) = true := by
        refine ⟨⟨hh.1, dstB_ok hh.2, ?_⟩, fun k hk => ?_⟩
        all_goals
          split at hx
          · split at hx
            · rename_i b k' b' blk r1 r2 hb
              split at hx
              · rename_i hall
                injection hx with hx; simp only [Prod.mk.injEq] at hx
                obtain ⟨rfl, rfl⟩ := hx
                first
                  | (injection hk with hk; subst hk; exact hall)
                  | (obtain ⟨k2, blk2, hr⟩ := buildOwn_shape hb
                     simp only [Prod.mk.injEq, AV.own.injEq, List.cons.injEq] at hr
                     obtain ⟨⟨rfl, rfl⟩, ⟨⟨rfl, rfl⟩, rfl⟩, rfl⟩ := hr
                     exact ⟨_, rfl, hall, hb⟩)
              · cases hx
            · cases hx
          · split at hx
            · rename_i t ho
              obtain ⟨y, hy, hx⟩ := map_some' hx
              simp only [Prod.mk.injEq] at hx
              obtain ⟨rfl, rfl⟩ := hx
              first
                | cases hk
                | exact .inr ⟨t, .inl ho, hy⟩
            · rename_i t ho
              obtain ⟨y, hy, hx⟩ := map_some' hx
              simp only [Prod.mk.injEq] at hx
              obtain ⟨rfl, rfl⟩ := hx
              first
                | cases hk
                | exact .inr ⟨t, .inr ho, hy⟩
            · split at hx
              · rename_i y hy
                split at hx
                · rename_i hky
                  injection hx with hx; simp only [Prod.mk.injEq] at hx
                  obtain ⟨rfl, rfl⟩ := hx
                  first
                    | cases hk
                    | exact .inl ⟨hy, hky⟩
                · cases hx
              · cases hx
      refine ⟨⟨hop.1, i1⟩, ?_, by simp [i3], fun j k hj => ?_⟩
      · show _ = EL (fun _ => true) (if (fun _ => true) i = true then updE (fun t => get t env) o.dst x else fun t => get t env) (i + 1) l xs1
        simp only [if_true]
        exact i2
      · cases j with
        | zero => simp at hj; exact hop.2 k hj
        | succ j => exact i4 j k (by simpa using hj)
    · cases h
/-- .. as a state. -/
def rFree (P : Program) (n : Nat) (cs : List Bool) (l : List Oper) (st : St) : Option St :=
  if (st.hp.all fun p => decide (p.1 < st.nx) && p.2.cs.all (AV.keyed st.nx 4)) = true ∧ (st.env.all fun p => p.2.keyed st.nx 4) = true then
    (fRun P n st.hp st.nx st.env 0 l cs).map fun r => ⟨r.2.2, litH st.nx 0 r.2.1 st.hp, st.nx + l.length⟩ else none
theorem get_pair {α : Type} {b : Nat} {k : α} : ∀ {l : List (Nat × α)}, get b l = some k → (b, k) ∈ l
  | [], h => by cases h
  | (c, q) :: l, h => by
    have h' : (if b = c then some q else get b l) = some k := h
    split at h'
    · rename_i e; subst e; injection h' with h'; subst h'; simp
    · exact List.mem_cons_of_mem _ (get_pair h')
theorem reg_seqF {id : Nat} {l : List Oper} {y : Code} (cs : List Bool) (st' : St) (hm : P.follows .mixedOrders = true) (hd : drawOk l.toArray l.toArray.size = true) (h : trimTo st' (rFree P n cs l st) = some st') (hl : lo ≤ st'.nx) (hk : awp P n lo y Q st') : awp P n lo (.seq (.region id l.toArray true) y) Q st := by
  obtain ⟨s, hs, ht⟩ := trim_some h hl
  refine awp_seq (fun K hK => ?_)
  unfold awp; rw [if_pos rfl]
  refine .inr ?_
  unfold rFree at hs
  split at hs
  · rename_i hh
    obtain ⟨⟨xs, bs, env'⟩, hr, rfl⟩ := map_some' hs
    obtain ⟨h1, h2, h3, h4⟩ := fRun_spec l cs st.env 0 hr
    refine ⟨hm, hd, xs, bs, _, by simpa using h3, fun b k hg => ?_, fun t x hx => ?_, h4, h1, hK _ _ ht hk, rfl, by rw [h3], h2⟩
    · have := List.all_eq_true.1 hh.1 _ (get_pair hg)
      simpa using this
    · exact List.all_eq_true.1 hh.2 _ (get_pair hx)
  · cases hs
theorem reg_seqD {id : Nat} {l : List Oper} {y : Code} (st' : St) (hm : P.follows .mixedOrders = true) (hd : drawAny l = true) (h : trimTo st' (rMix P n l st) = some st') (hl : lo ≤ st'.nx) (hk : awp P n lo y Q st') : awp P n lo (.seq (.region id l.toArray true) y) Q st := by
  obtain ⟨s, hs, ht⟩ := trim_some h hl
  exact awp_seq (fun K hK => awp_mix0 hm hd (mix_all hs (hK _ _ ht hk)))
end
end Go.Proofs.YtdfokoapenhalaaDoor.Ab
end
section
namespace Go.Proofs.YtdfokoapenhalaaDoor.Ab
open Go Go.RowKit Go.Shelf

/-- A loop as a plain function: a round goes on with a state or ends with a result; none: out of what the function is told for. -/
def loopN {σ ρ : Type} (body : σ → Option (σ ⊕ ρ)) : Nat → σ → Option ρ
  | 0, _ => none
  | m + 1, s => match body s with
    | some (.inl s') => loopN body m s'
    | some (.inr r) => some r
    | none => none
theorem loopN_more {σ ρ : Type} {body : σ → Option (σ ⊕ ρ)} : ∀ {m : Nat} {s : σ} {r : ρ}, loopN body m s = some r → ∀ k, loopN body (m + k) s = some r
  | 0, s, r, h, k => by cases h
  | m + 1, s, r, h, k => by
    rw [show m + 1 + k = (m + k) + 1 by omega]
    unfold loopN at h ⊢
    cases hb : body s with
    | none => rw [hb] at h; cases h
    | some o =>
      rw [hb] at h
      cases o with
      | inl s' => exact loopN_more h k
      | inr r' => exact h
/-- How many rounds a loop is told for. -/
def rounds : Nat := 1000000000000000000
def loopO {σ ρ : Type} (body : σ → Option (σ ⊕ ρ)) (s : σ) : Option ρ := loopN body rounds s
theorem loopO_of {σ ρ : Type} {body : σ → Option (σ ⊕ ρ)} {m : Nat} {s : σ} {r : ρ} (h : loopN body m s = some r) (hm : m ≤ rounds) : loopO body s = some r := by
  have := loopN_more h (rounds - m)
  rw [show m + (rounds - m) = rounds by omega] at this; exact this
theorem loopO_some {σ ρ : Type} {body : σ → Option (σ ⊕ ρ)} {s : σ} {r : ρ} (h : loopO body s = some r) : ∃ m, loopN body m s = some r := ⟨rounds, h⟩
/-- What comes behind a statement that may also end the function. -/
def bindF {ρ τ : Type} (x : Option (ρ ⊕ τ)) (k : ρ → Option τ) : Option τ := match x with
  | some (.inl e) => k e
  | some (.inr v) => some v
  | none => none
/-- An element by a Go index. -/
def getI {α : Type} (l : List α) (i : Int) : Option α := if 0 ≤ i then l[i.toNat]? else none
theorem getI_some {α : Type} {l : List α} {i : Int} {x : α} (h : getI l i = some x) : 0 ≤ i ∧ l[i.toNat]? = some x := by
  unfold getI at h
  split at h
  · rename_i h0; exact ⟨h0, h⟩
  · cases h
theorem getI_lt {α : Type} {l : List α} {i : Int} {x : α} (h : getI l i = some x) : 0 ≤ i ∧ i < l.length := by
  obtain ⟨h0, h1⟩ := getI_some h
  have := (List.getElem?_eq_some_iff.1 h1).1
  omega
/-- An element put in place of another one. -/
def setI {α : Type} (l : List α) (i : Int) (x : α) : List α := l.set i.toNat x
/-- A list of a given length. -/
def lenO {α : Type} (l : List α) (n : Nat) : Option Unit := if l.length = n then some () else none
theorem lenO_some {α : Type} {l : List α} {n : Nat} {u : Unit} (h : lenO l n = some u) : l.length = n := by
  unfold lenO at h
  split at h
  · assumption
  · cases h
/-- An index in range. -/
def rngO (i : Int) (n : Nat) : Option Unit := if 0 ≤ i ∧ i < n then some () else none
theorem rngO_some {i : Int} {n : Nat} {u : Unit} (h : rngO i n = some u) : 0 ≤ i ∧ i < n := by
  unfold rngO at h
  split at h
  · assumption
  · cases h
theorem leB {a b : Nat} (h : Nat.ble a b = true) : a ≤ b := Nat.le_of_ble_eq_true h
/-- append, within what a machine can hold. -/
def appO {α : Type} (b : Nat) (l m : List α) : Option (List α) := if (l.length + m.length) * b ≤ 140737488355328 ∧ l.length + m.length ≤ 1152921504606846976 then some (l ++ m) else none
/-- make, within what a machine can hold. -/
def makeO {α : Type} (b : Nat) (z : α) (n c : Int) : Option (List α) := if 0 ≤ n ∧ n ≤ c ∧ (b : Int) * c ≤ 140737488355328 ∧ c ≤ 1152921504606846976 then some (List.replicate n.toNat z) else none
theorem appO_pos {α : Type} {b : Nat} {l m : List α} {x : α} {r : List α} (h : appO b l (x :: m) = some r) : 0 < r.length := by
  unfold appO at h
  split at h
  · injection h with h; subst h; simp; omega
  · cases h
theorem ne_cons {α : Type} {l : List α} (h : 0 < l.length) : ∃ x m, l = x :: m := by
  cases l with
  | nil => simp at h
  | cons x m => exact ⟨x, m, rfl⟩
def andK (k : IntKind) (a b : Int) : Int := k.wrap ((BitVec.ofInt k.bits a &&& BitVec.ofInt k.bits b).toNat : Int)
def orK (k : IntKind) (a b : Int) : Int := k.wrap ((BitVec.ofInt k.bits a ||| BitVec.ofInt k.bits b).toNat : Int)
def xorK (k : IntKind) (a b : Int) : Int := k.wrap ((BitVec.ofInt k.bits a ^^^ BitVec.ofInt k.bits b).toNat : Int)
def shlK (k : IntKind) (a b : Int) : Int := k.wrap (a * 2 ^ min b.toNat k.bits)
def shrK (k : IntKind) (a b : Int) : Int := a.fdiv (2 ^ min b.toNat k.bits)
def nnO (b : Int) : Option Unit := if 0 ≤ b then some () else none
theorem nnO_some {b : Int} {u : Unit} (h : nnO b = some u) : 0 ≤ b := by
  unfold nnO at h
  split at h
  · assumption
  · cases h
def quoO (k : IntKind) (a b : Int) : Option Int := if b = 0 then none else some (k.wrap (a.tdiv b))
def remO (a b : Int) : Option Int := if b = 0 then none else some (a.tmod b)
/-- Some of the blocks. -/
def keepH : List Nat → List (Nat × Blk) → List (Nat × Blk)
  | [], _ => []
  | k :: ks, hp => match get k hp with
    | some x => (k, x) :: keepH ks hp
    | none => keepH ks hp
theorem get_keepH (hp : List (Nat × Blk)) (t : Nat) (x : Blk) : ∀ ks, get t (keepH ks hp) = some x → get t hp = some x
  | [], h => by cases h
  | k :: ks, h => by
    unfold keepH at h
    split at h
    · rename_i y hy
      have h' : (if t = k then some y else get t (keepH ks hp)) = some x := h
      split at h'
      · rename_i e; subst e; rw [hy]; exact h'
      · exact get_keepH hp t x ks h'
    · exact get_keepH hp t x ks h
section
variable {P : Program} {n lo : Nat} {ops : Array Oper} {K : St → Prop} {st : St} {Q : Exit → St → Prop}
theorem to_keep2 (ks bs : List Nat) {env' : List (Nat × AV)} {hp' : List (Nat × Blk)} (h : lo ≤ st.nx) (he : keepE ks st.env = env') (hh : keepH bs st.hp = hp') : St.to lo st ⟨env', hp', st.nx⟩ := by
  subst he; subst hh
  exact ⟨h, fun F a w _ ⟨hd, htn, S, m, hm, hE⟩ => ⟨hd, htn, S, m, hm.fewer (fun b k hb => get_keepH _ _ _ bs hb), fun t x hx => hE t x (get_keepE _ _ _ ks hx)⟩⟩
theorem renE_of {σ : Nat → Nat} {n : Nat} {env : List (Nat × AV)} : ∀ {l : List (Nat × AV)}, (l.map fun p => get p.1 env) = (l.map fun p => some (p.2.ren σ 4)) → (l.all fun p => p.2.keyed n 4) = true → renE σ n env l
  | [], _, _ => trivial
  | (t, x) :: l, h, hk => by
    have hk' : x.keyed n 4 = true ∧ (l.all fun p => p.2.keyed n 4) = true := Bool.and_eq_true_iff.1 hk
    exact ⟨reS (List.cons.inj h).1 hk'.1, renE_of (List.cons.inj h).2 hk'.2⟩
theorem reN {σ : Nat → Nat} {n t : Nat} {env : List (Nat × AV)} {x : AV} (h : get t env = some x) (hk : x.keyed 0 4 = true) : ∃ y, get t env = some y ∧ Sub y (x.ren σ 4) ∧ x.keyed n 4 = true := ⟨x, h, by rw [ren_none σ 4 x hk]; exact Sub.refl x, keyed_mono (Nat.zero_le n) 4 x hk⟩
theorem get_putB' (b : Nat) (k : Blk) (c : Nat) (hp : List (Nat × Blk)) : get c (putB b k hp) = if c = b then some k else get c hp := get_putB b k c hp
/-- A cell that stands for more. -/
theorem to_cell (b j : Nat) {q : Blk} {x y : AV} (h : lo ≤ st.nx) (hg : get b st.hp = some q) (hx : q.cs[j]? = some x) (hs : Sub x y) : St.to lo st ⟨st.env, putB b ⟨q.ty, q.sz, q.cs.set j y⟩ st.hp, st.nx⟩ := by
  refine ⟨h, fun F a w _ ⟨hd, htn, S, m, hm, hE⟩ => ⟨hd, htn, S, m, ⟨hm.glob, hm.os, hm.tape, hm.output, hm.size, hm.keep, hm.old, hm.agree, hm.nile, hm.lt, fun c k hk => ?_, fun c k hk => ?_, fun c c' k k' hk hk' he => ?_⟩, hE⟩⟩
  · rw [get_putB] at hk
    split at hk
    · rename_i e; subst e; exact hm.live c q hg
    · exact hm.live c k hk
  · rw [get_putB] at hk
    split at hk
    · rename_i e; subst e; injection hk with hk; subst hk
      obtain ⟨cur, c1, c2, c3⟩ := hm.cells c q hg
      refine ⟨cur, ⟨c1.1, fun hk => ⟨(c1.2 hk).1, by show (q.cs.set j y).length = _; rw [List.length_set]; exact (c1.2 hk).2⟩⟩, fun i z hz => ?_, c3⟩
      have hz' : (q.cs.set j y)[i]? = some z := hz
      by_cases e : j = i
      · subst e
        rw [List.getElem?_set_self (List.getElem?_eq_some_iff.1 hx).1] at hz'
        injection hz' with hz'; subst hz'
        obtain ⟨v, y1, y2⟩ := c2 j x hx
        exact ⟨v, y1, hs _ _ _ _ _ y2⟩
      · rw [List.getElem?_set_ne e] at hz'
        exact c2 i z hz'
    · exact hm.cells c k hk
  · have hex : ∀ c k, get c (putB b ⟨q.ty, q.sz, q.cs.set j y⟩ st.hp) = some k → ∃ k', get c st.hp = some k' := fun c k hk => by
      rw [get_putB] at hk
      split at hk
      · rename_i e; exact ⟨q, by rw [e]; exact hg⟩
      · exact ⟨k, hk⟩
    obtain ⟨k1, h1⟩ := hex c k hk
    obtain ⟨k2, h2⟩ := hex c' k' hk'
    exact hm.inj c c' k1 k2 h1 h2 he
theorem to_trim {st' : St} (h : trimTo st' (some st) = some st') (hl : lo ≤ st'.nx) : St.to lo st st' := by
  obtain ⟨s, hs, ht⟩ := trim_some h hl
  injection hs with hs; subst hs; exact ht
theorem awp_loopO {σ ρ : Type} {body : σ → Option (σ ⊕ ρ)} {s0 : σ} {r : ρ} {c : Code} (h : loopO body s0 = some r) (f : σ → St) (hs : St.to lo st (f s0))
    (round : ∀ s o, body s = some o → (∀ e, o = .inr e → e = r) → ∀ K : St → Prop, (∀ s' st', o = .inl s' → St.to lo st' (f s') → K st') → awp P n lo c (aThen K Q) (f s)) : awp P n lo (.loop c) Q st := by
  obtain ⟨m0, hm0⟩ := loopO_some h
  refine awp_loop f (fun m s => loopN body m s = some r) m0 s0 hm0 hs fun m s hm K hK => ?_
  cases m with
  | zero => cases hm
  | succ m =>
    unfold loopN at hm
    cases hb : body s with
    | none => rw [hb] at hm; cases hm
    | some o =>
      rw [hb] at hm
      refine round s o hb (fun e he => ?_) K (fun s' st' he ht => ?_)
      · subst he; injection hm
      · subst he; exact hK st' m s' (Nat.lt_succ_self m) hm ht
theorem awp_cut {ρ τ : Type} {X : Option (ρ ⊕ τ)} {REST : ρ → Option τ} {fin : τ} {x y : Code} (h : bindF X REST = some fin) (g : ρ → St)
    (hx : ∀ o, X = some o → (∀ v, o = .inr v → v = fin) → ∀ K : St → Prop, (∀ e st', o = .inl e → St.to lo st' (g e) → K st') → awp P n lo x (aThen K Q) st) (hy : ∀ e, REST e = some fin → awp P n lo y Q (g e)) : awp P n lo (.seq x y) Q st := by
  cases hX : X with
  | none => rw [hX] at h; cases h
  | some o =>
    rw [hX] at h
    cases o with
    | inl e => exact awp_seq (fun K hK => hx _ hX (fun v hv => by cases hv) K (fun e' st' he ht => hK st' (g e') ht (hy e' (by injection he with he; subst he; exact h))))
    | inr v => exact awp_seq (fun K hK => hx _ hX (fun v' hv => by injection hv with hv; subst hv; injection h) K (fun e st' he => by cases he))
theorem awp_assoc {a b c : Code} (h : awp P n lo (.seq a (.seq b c)) Q st) : awp P n lo (.seq (.seq a b) c) Q st := by
  have e : ∀ (K1 K2 : St → Prop), aThen K1 (aThen K2 Q) = aThen K1 Q := fun K1 K2 => by funext e; cases e <;> rfl
  unfold awp; unfold awp; rw [e]; exact h
theorem awp_ite {α : Type} {A B : Option α} {v : α} {b : Bool} {c : Operand} {x y : Code} (h : (if b = true then A else B) = some v) (hc : aEv st.E c = some (.s (.bool b))) (ht : b = true → A = some v → awp P n lo x Q st) (hf : b = false → B = some v → awp P n lo y Q st) : awp P n lo (.cond c x y) Q st := by
  cases b with
  | true => exact awp_cond true hc (fun e => ht e h) (fun e => by cases e)
  | false => exact awp_cond false hc (fun e => by cases e) (fun e => hf e h)
theorem ite_both {α : Type} {A B : Option α} {v : α} {b : Bool} {G : Prop} (h : (if b = true then A else B) = some v) (ht : b = true → A = some v → G) (hf : b = false → B = some v → G) : G := by
  cases b with
  | true => exact ht rfl h
  | false => exact hf rfl h
theorem ret_leaf {rs : List ResultVar} {nx nx' : Nat} {r : AV} {hp' : List (Nat × Blk)} {e : Exit} (he : e = .ret ∨ e = .normal) (st' : St) (hto : St.to nx st st') (xs : List AV) (hx : aResults P st' rs = some xs) (hr : r = oneOf xs) (hn : nx ≤ nx') (hk : r.keyed nx' 4 = true) (hs : subH nx' st'.hp hp') : aRetF P rs nx r hp' nx' e st := by
  rcases he with rfl | rfl <;> exact ⟨st', hto, ⟨xs, hx, hr⟩, hn, hk, hs⟩
end
/-- The cells of a row. -/
def flat {α : Type} (c : α → List AV) (l : List α) : List AV := (l.map c).flatten
section
variable {α : Type} {c : α → List AV} {k : Nat}
theorem flat_length (hc : ∀ x, (c x).length = k) (l : List α) : (flat c l).length = l.length * k := by
  unfold flat
  rw [flatten_len k _ (fun e he => by obtain ⟨x, _, rfl⟩ := List.mem_map.1 he; exact hc x), List.length_map]
theorem flat_cons (x : α) (l : List α) : flat c (x :: l) = c x ++ flat c l := rfl
theorem flat_append (l m : List α) : flat c (l ++ m) = flat c l ++ flat c m := by unfold flat; simp
theorem flat_drop (hc : ∀ x, (c x).length = k) : ∀ (l : List α) (i : Nat), (flat c l).drop (i * k) = flat c (l.drop i)
  | l, 0 => by simp
  | [], i + 1 => by simp [flat]
  | x :: l, i + 1 => by
    rw [flat_cons, Nat.add_mul, Nat.one_mul, Nat.add_comm, ← List.drop_drop, List.drop_left' (hc x), List.drop_succ_cons]
    exact flat_drop hc l i
theorem flat_take (hc : ∀ x, (c x).length = k) : ∀ (l : List α) (i : Nat), (flat c l).take (i * k) = flat c (l.take i)
  | l, 0 => by simp [flat]
  | [], i + 1 => by simp [flat]
  | x :: l, i + 1 => by
    have e : (i + 1) * k = (c x).length + i * k := by rw [hc x, Nat.add_mul]; omega
    rw [flat_cons, e, List.take_length_add_append, flat_take hc l i, List.take_succ_cons, flat_cons]
theorem drop_at {l : List α} {i : Nat} {x : α} (h : l[i]? = some x) : l.drop i = x :: l.drop (i + 1) := by
  obtain ⟨h1, h2⟩ := List.getElem?_eq_some_iff.1 h
  rw [List.drop_eq_getElem_cons h1, h2]
/-- A part of an element of a row. -/
theorem part_flat {P : Program} {t : TypeId} (hc : ∀ x, (c x).length = k) {l : List α} {i j : Nat} {x : α} {y : AV} (hx : l[i]? = some x) (h : aPart P t (c x) j = some y) : aPart P t (flat c l) (i * k + j) = some y := by
  have hd : (flat c l).drop (i * k) = c x ++ flat c (l.drop (i + 1)) := by rw [flat_drop hc, drop_at hx, flat_cons]
  have hl : (flat c l).length = i * k + ((c x).length + (flat c (l.drop (i + 1))).length) := by
    have h1 := congrArg List.length hd
    rw [List.length_drop, List.length_append] at h1
    have h2 : i * k ≤ (flat c l).length := by
      rw [flat_length hc]; exact Nat.mul_le_mul_right k (Nat.le_of_lt (List.getElem?_eq_some_iff.1 hx).1)
    omega
  unfold aPart at h ⊢
  split at h
  · cases h
  · rename_i d hu
    by_cases hr : d.isRow = true
    · rw [if_pos hr] at h ⊢
      cases hs : sizeT P t with
      | none => rw [hs] at h; cases h
      | some s =>
        rw [hs] at h
        simp only at h ⊢
        by_cases hle : j + s ≤ (c x).length
        · rw [if_pos hle] at h
          injection h with h
          rw [if_pos (by omega), ← h, ← List.drop_drop, hd, List.drop_append_of_le_length (by omega), List.take_append_of_le_length (by rw [List.length_drop]; omega)]
        · rw [if_neg hle] at h; cases h
    · rw [if_neg hr] at h ⊢
      have hj := (List.getElem?_eq_some_iff.1 h).1
      rw [← List.getElem?_drop, hd, List.getElem?_append_left hj]; exact h
/-- A part of an element of a row is written. -/
theorem flat_put (hc : ∀ x, (c x).length = k) {l : List α} {i j : Nat} {x y : α} {v : List AV} (hx : l[i]? = some x) (hj : j + v.length ≤ k) (hy : c y = (c x).take j ++ v ++ (c x).drop (j + v.length)) :
    (flat c l).take (i * k + j) ++ v ++ (flat c l).drop (i * k + j + v.length) = flat c (l.set i y) := by
  have hil := (List.getElem?_eq_some_iff.1 hx).1
  have hd : (flat c l).drop (i * k) = c x ++ flat c (l.drop (i + 1)) := by rw [flat_drop hc, drop_at hx, flat_cons]
  have hset : l.set i y = l.take i ++ y :: l.drop (i + 1) := by rw [List.set_eq_take_append_cons_drop, if_pos hil]
  rw [hset, flat_append, flat_cons, hy, List.take_add, flat_take hc, hd, List.take_append_of_le_length (by rw [hc]; omega), Nat.add_assoc, ← List.drop_drop, hd, List.drop_append_of_le_length (by rw [hc]; omega)]
  simp only [List.append_assoc]
theorem flat_all (p : AV → Bool) (h : ∀ x, (c x).all p = true) (l : List α) : (flat c l).all p = true := by
  unfold flat
  rw [List.all_flatten, List.all_map]
  exact List.all_eq_true.2 fun x _ => h x
theorem flat_replicate (z : α) (n : Nat) : (List.replicate n (c z)).flatten = flat c (List.replicate n z) := by unfold flat; rw [List.map_replicate]
end
/-- A slice that may be nil and is otherwise an own row. -/
def growE {α : Type} (b : Nat) (l : List α) : AV := match l with
  | [] => .s (.slice none 0 0)
  | _ :: _ => .own b l.length
def growH {α : Type} (b : Nat) (k : Blk) (l : List α) (hp : List (Nat × Blk)) : List (Nat × Blk) := match l with
  | [] => hp
  | _ :: _ => (b, k) :: hp
section
variable {P : Program} {α : Type}
theorem growE_keyed {b n : Nat} (h : b < n) (l : List α) : AV.keyed n 4 (growE b l) = true := by
  cases l with
  | nil => rfl
  | cons x l => simp [growE, AV.keyed, h]
theorem growE_ren (σ : Nat → Nat) (b : Nat) (l : List α) : (growE b l).ren σ 4 = growE (σ b) l := by cases l <;> rfl
theorem growE_own {b : Nat} {l : List α} (h : 0 < l.length) : growE b l = .own b l.length := by
  cases l with
  | nil => simp at h
  | cons x l => rfl
end
end Go.Proofs.YtdfokoapenhalaaDoor.Ab
end
section
namespace Go.Proofs.YtdfokoapenhalaaDoor.Ab
open Go Go.RowKit Go.Shelf
abbrev I (n : Int) : AV := .s (.int .i64 n)
abbrev B (b : Bool) : AV := .s (.bool b)
abbrev Sr (b : ByteArray) : AV := .s (.string b)
abbrev U : AV := .s undef
abbrev Nl : AV := .s (.slice none 0 0)
abbrev Nf : AV := .s .nilFunc
/-- A slice of plain values. -/
abbrev sl {α : Type} (k : Nat) (c : α → List AV) (l : List α) : AV := .sl k (l.map c)
def cI (x : Int) : List AV := [I x]
def cU8 (x : Int) : List AV := [.s (.int .u8 x)]
def cU16 (x : Int) : List AV := [.s (.int .u16 x)]
def cU32 (x : Int) : List AV := [.s (.int .u32 x)]
def cU64 (x : Int) : List AV := [.s (.int .u64 x)]
def cI32 (x : Int) : List AV := [.s (.int .i32 x)]
def cB (x : Bool) : List AV := [B x]
def cS (x : ByteArray) : List AV := [Sr x]
def cL {α : Type} (k : Nat) (c : α → List AV) (x : List α) : List AV := [sl k c x]
section
variable {P : Program} {n : Nat} {ρ : Operand → Option AV} {hp : List (Nat × Blk)} {nx : Nat} {α : Type} {c : α → List AV} {k : Nat}
theorem all_and {α : Type} {c : α → List AV} {n d : Nat} (h1 : ∀ x, (c x).all (AV.keyed n d) = true) (h2 : ∀ x, (c x).all AV.one = true) (x : α) (a : AV) (h : a ∈ c x) : a.keyed n d = true ∧ a.one = true := ⟨List.all_eq_true.1 (h1 x) a h, List.all_eq_true.1 (h2 x) a h⟩
theorem SubL.of_eq {xs ys : List AV} (h : xs = ys) : SubL xs ys := by subst h; exact SubL.refl xs
theorem Sub.of_eq {x y : AV} (h : x = y) : Sub x y := by subst h; exact Sub.refl x
theorem SubL.get {xs ys : List AV} (h : SubL xs ys) : xs.length = ys.length ∧ ∀ (j : Nat) (y : AV), ys[j]? = some y → ∃ x, xs[j]? = some x ∧ Sub x y := by
  induction h with
  | nil => exact ⟨rfl, fun j y hy => by simp at hy⟩
  | cons h1 _ ih =>
    refine ⟨by simp [ih.1], fun j y hy => ?_⟩
    cases j with
    | zero => simp at hy; subst hy; exact ⟨_, rfl, h1⟩
    | succ j => simpa using ih.2 j y (by simpa using hy)
theorem Sub.agg {xs ys : List AV} (h : SubL xs ys) : Sub (.agg xs) (.agg ys) := fun w S m nx v hr => by
  obtain ⟨h1, h2⟩ := h.get
  cases hr with
  | agg vs hl hr =>
    refine .agg vs (by rw [← h1]; exact hl) fun j y b hy hb => ?_
    obtain ⟨x, hx, hs⟩ := h2 j y hy
    exact hs _ _ _ _ _ (hr j x b hx hb)
theorem Sub.own0 (b sz : Nat) : Sub (.own b 0) (.sl sz []) := fun w S m nx v hr => by
  cases hr with
  | own _ _ h => exact .sl0 _ _
theorem ev_idx_sl {t e : TypeId} {x i : Operand} {l : List α} {ik : IntKind} {j : Int} {a : α} (h : getI l j = some a) (hu : P.underlying t = some (.slice e)) (hs : sizeT P e = some k) (hx : ρ x = some (sl k c l)) (hi : ρ i = some (.s (.int ik j))) :
    aPure P ρ hp (.indexAddr t x i) = some (.ip (c a)) := by
  obtain ⟨h0, h1⟩ := getI_some h
  show ((ρ x).bind fun x => (ρ i).bind fun i => aIndexAt P t x i) = _
  rw [hx, hi]
  simp [aIndexAt, hu, hs, h0, h1]
theorem ev_idx_own {t e : TypeId} {x i : Operand} {l : List α} {b N : Nat} {ik : IntKind} {j : Int} {a : α} (h : getI l j = some a) (hn : N = l.length) (hu : P.underlying t = some (.slice e)) (hs : sizeT P e = some k) (hx : ρ x = some (.own b N)) (hi : ρ i = some (.s (.int ik j))) :
    aPure P ρ hp (.indexAddr t x i) = some (.ptr b (j.toNat * k)) := by
  obtain ⟨h0, h1⟩ := getI_lt h
  show ((ρ x).bind fun x => (ρ i).bind fun i => aIndexAt P t x i) = _
  rw [hx, hi]
  subst hn
  simp [aIndexAt, hu, hs, h0, h1]
theorem ev_idx_grow {t e : TypeId} {x i : Operand} {l : List α} {b : Nat} {ik : IntKind} {j : Int} {a : α} (h : getI l j = some a) (hu : P.underlying t = some (.slice e)) (hs : sizeT P e = some k) (hx : ρ x = some (growE b l)) (hi : ρ i = some (.s (.int ik j))) :
    aPure P ρ hp (.indexAddr t x i) = some (.ptr b (j.toNat * k)) :=
  ev_idx_own h rfl hu hs (by rw [hx, growE_own (by have := getI_lt h; omega)]) hi
theorem ev_idx_arr {t e : TypeId} {x i : Operand} {l : List α} {b N : Nat} {ik : IntKind} {j : Int} {a : α} (h : getI l j = some a) (hl : l.length = N) (hu : P.underlying t = some (.array N e)) (hs : sizeT P e = some k) (hx : ρ x = some (.ptr b 0)) (hi : ρ i = some (.s (.int ik j))) :
    aPure P ρ hp (.indexAddr t x i) = some (.ptr b (j.toNat * k)) := by
  obtain ⟨h0, h1⟩ := getI_lt h
  show ((ρ x).bind fun x => (ρ i).bind fun i => aIndexAt P t x i) = _
  rw [hx, hi]
  simp [aIndexAt, hu, hs, h0, hl ▸ h1]
theorem ev_ix_arr {t e : TypeId} {x i : Operand} {l : List α} {N : Nat} {ik : IntKind} {j : Int} {a : α} {y : AV} (hc : ∀ x, (c x).length = k) (h : getI l j = some a) (hl : l.length = N) (hu : P.underlying t = some (.array N e)) (hs : sizeT P e = some k) (hx : ρ x = some (.agg (flat c l))) (hi : ρ i = some (.s (.int ik j))) (hy : aPart P e (c a) 0 = some y) :
    aPure P ρ hp (.index t x i) = some y := by
  obtain ⟨h0, h1⟩ := getI_lt h
  show ((ρ x).bind fun x => (ρ i).bind fun i => aIndex P t x i) = _
  rw [hx, hi]
  have := part_flat (P := P) (t := e) hc (getI_some h).2 hy
  rw [Nat.add_zero] at this
  simp [aIndex, hu, hs, h0, hl ▸ h1, this]
/-- A part of an element of an own row, read. -/
theorem ev_load_row {t ty : TypeId} {x : Operand} {l : List α} {b i j o sz : Nat} {a : α} {y : AV} (hc : ∀ x, (c x).length = k) (h : l[i]? = some a) (ho : o = i * k + j) (hx : ρ x = some (.ptr b o)) (hb : get b hp = some ⟨ty, sz, flat c l⟩) (hy : aPart P t (c a) j = some y) :
    aPure P ρ hp (.load t x) = some y := by
  show ((ρ x).bind (aLoad P t hp)) = _
  rw [hx, ho]
  show (match get b hp with | some k => aPart P t k.cs _ | none => none) = _
  rw [hb]
  exact part_flat hc h hy
/-- A whole row, read. -/
theorem ev_load_arr {t ty : TypeId} {dsc : TypeDesc} {x : Operand} {l : List α} {b sz s : Nat} (hc : ∀ x, (c x).length = k) (hl : l.length * k = s) (hu : P.underlying t = some dsc) (hr : dsc.isRow = true) (hs : sizeT P t = some s) (hx : ρ x = some (.ptr b 0)) (hb : get b hp = some ⟨ty, sz, flat c l⟩) :
    aPure P ρ hp (.load t x) = some (.agg (flat c l)) := by
  have hlen := flat_length hc l
  show ((ρ x).bind (aLoad P t hp)) = _
  rw [hx]
  show (match get b hp with | some k => aPart P t k.cs _ | none => none) = _
  rw [hb]
  show aPart P t (flat c l) 0 = _
  unfold aPart
  rw [hu]
  simp only [hr, if_true, hs, List.drop_zero]
  rw [if_pos (by omega), List.take_of_length_le (by omega)]
/-- A pointer to an array in an array, and into it. -/
theorem ev_idx_at {t e : TypeId} {x i : Operand} {b o N : Nat} {ik : IntKind} {j : Int} (h : 0 ≤ j ∧ j < N) (hu : P.underlying t = some (.array N e)) (hs : sizeT P e = some k) (hx : ρ x = some (.ptr b o)) (hi : ρ i = some (.s (.int ik j))) :
    aPure P ρ hp (.indexAddr t x i) = some (.ptr b (o + j.toNat * k)) := by
  show ((ρ x).bind fun x => (ρ i).bind fun i => aIndexAt P t x i) = _
  rw [hx, hi]
  simp [aIndexAt, hu, hs, h]
theorem ev_idx_sub {t e : TypeId} {x i : Operand} {b N : Nat} {ik : IntKind} {j : Int} (h : 0 ≤ j ∧ j < N) (hu : P.underlying t = some (.array N e)) (hs : sizeT P e = some k) (hx : ρ x = some (.ptr b 0)) (hi : ρ i = some (.s (.int ik j))) :
    aPure P ρ hp (.indexAddr t x i) = some (.ptr b (j.toNat * k)) := by
  rw [ev_idx_at h hu hs hx hi, Nat.zero_add]
/-- An array in an array. -/
theorem ev_ix_sub {t e : TypeId} {dsc : TypeDesc} {x i : Operand} {l : List α} {N m s : Nat} {ik : IntKind} {j : Int} (hc : ∀ x, (c x).length = k) (h : 0 ≤ j ∧ j < N) (hl : l.length = N * m) (hu : P.underlying t = some (.array N e)) (hu2 : P.underlying e = some dsc) (hr : dsc.isRow = true) (hs : sizeT P e = some s) (hsm : s = m * k) (hx : ρ x = some (.agg (flat c l))) (hi : ρ i = some (.s (.int ik j))) :
    aPure P ρ hp (.index t x i) = some (.agg (flat c ((l.drop (j.toNat * m)).take m))) := by
  show ((ρ x).bind fun x => (ρ i).bind fun i => aIndex P t x i) = _
  rw [hx, hi]
  have e1 : j.toNat * s = j.toNat * m * k := by rw [hsm, Nat.mul_assoc]
  have e2 : (flat c l).length = l.length * k := flat_length hc l
  have e3 : j.toNat + 1 ≤ N := by omega
  have e4 : (j.toNat + 1) * m ≤ N * m := Nat.mul_le_mul_right m e3
  have e5 : (j.toNat + 1) * m * k ≤ N * m * k := Nat.mul_le_mul_right k e4
  have e6 : (j.toNat + 1) * m * k = j.toNat * m * k + m * k := by rw [Nat.add_mul, Nat.one_mul, Nat.add_mul]
  simp only [Option.bind_some, aIndex, hu, hs, h, and_self, if_true]
  unfold aPart
  simp only [hu2, hr, if_true, hs]
  rw [if_pos (by rw [e1, e2, hl, hsm]; omega), e1, flat_drop hc, hsm, flat_take hc]
/-- A part of an element of an own row, written. -/
theorem hv_store_row {t ty : TypeId} {x v : Operand} {l : List α} {b i j o sz s : Nat} {a a' : α} {y : AV} (hc : ∀ x, (c x).length = k) (h : l[i]? = some a) (ho : o = i * k + j) (hx : ρ x = some (.ptr b o)) (hv : ρ v = some y) (hb : get b hp = some ⟨ty, sz, flat c l⟩) (hs : sizeT P t = some s) (hys : y.cells.length = s) (hy1 : y.cells.all AV.one = true) (hj : j + s ≤ k)
    (hy : c a' = (c a).take j ++ y.cells ++ (c a).drop (j + s)) : aHeap P ρ hp nx (.store t x v) = some (U, putB b ⟨ty, sz, flat c (l.set i a')⟩ hp, nx) := by
  subst ho
  have hil := (List.getElem?_eq_some_iff.1 h).1
  have hle : i * k + k ≤ (flat c l).length := by
    rw [flat_length hc, show i * k + k = (i + 1) * k by rw [Nat.add_mul, Nat.one_mul]]; exact Nat.mul_le_mul_right k hil
  have hp' := flat_put hc h (v := y.cells) (by rw [hys]; exact hj) (by rw [hys]; exact hy)
  rw [hys] at hp'
  show (match ρ x, ρ v with | some x, some v => (aStore P t hp x v).map fun hp => (AV.s undef, hp, nx) | _, _ => none) = _
  rw [hx, hv]
  simp only [aStore, hb, hs]
  rw [if_pos ⟨hys, hy1⟩, if_pos (by omega), hp']
  rfl
/-- A whole row, written. -/
theorem hv_store_arr {t ty : TypeId} {x v : Operand} {l m : List α} {b sz s : Nat} (hc : ∀ x, (c x).length = k) (hx : ρ x = some (.ptr b 0)) (hv : ρ v = some (.agg (flat c m))) (hb : get b hp = some ⟨ty, sz, flat c l⟩) (hs : sizeT P t = some s) (hl : l.length * k = s) (hm : m.length * k = s) (h1 : ∀ x, (c x).all AV.one = true) :
    aHeap P ρ hp nx (.store t x v) = some (U, putB b ⟨ty, sz, flat c m⟩ hp, nx) := by
  have e1 := flat_length hc l
  have e2 := flat_length hc m
  show (match ρ x, ρ v with | some x, some v => (aStore P t hp x v).map fun hp => (AV.s undef, hp, nx) | _, _ => none) = _
  rw [hx, hv]
  simp only [aStore, hb, hs]
  rw [if_pos ⟨by show (flat c m).length = s; omega, flat_all AV.one h1 m⟩, if_pos (by omega)]
  show some (U, putB b ⟨ty, sz, (flat c l).take 0 ++ flat c m ++ (flat c l).drop (0 + s)⟩ hp, nx) = _
  rw [List.take_zero, List.nil_append, List.drop_eq_nil_of_le (by omega), List.append_nil]
theorem ev_len_sl {t ty e : TypeId} {x : Operand} {l : List α} (hu : P.underlying t = some (.slice e)) (hx : ρ x = some (sl k c l)) : aPure P ρ hp (.call ⟨.builtin .len, #[x], #[t]⟩) = some (I l.length) := by
  show aBuilt P ρ .len [x] [t] = _
  show ((ρ x).bind (aLen P t)) = _
  rw [hx]
  show aLen P t (sl k c l) = _
  unfold aLen
  rw [hu]; simp
theorem ev_len_grow {t ty e : TypeId} {x : Operand} {l : List α} {b : Nat} (hu : P.underlying t = some (.slice e)) (hx : ρ x = some (growE b l)) : aPure P ρ hp (.call ⟨.builtin .len, #[x], #[t]⟩) = some (I l.length) := by
  show aBuilt P ρ .len [x] [t] = _
  show ((ρ x).bind (aLen P t)) = _
  rw [hx]
  show aLen P t (growE b l) = _
  unfold aLen
  rw [hu]; cases l <;> rfl
theorem ev_pickT {c a b : Operand} {t : Bool} {x : AV} (h : t = true) (hc : ρ c = some (.s (.bool t))) (ha : ρ a = some x) : aPure P ρ hp (.pick c a b) = some x := by
  show (match ρ c with | some (.s (.bool t)) => if t = true then ρ a else ρ b | _ => none) = _
  rw [hc]; simp only [h, if_true]; exact ha
theorem ev_pickF {c a b : Operand} {t : Bool} {x : AV} (h : t = false) (hc : ρ c = some (.s (.bool t))) (hb : ρ b = some x) : aPure P ρ hp (.pick c a b) = some x := by
  show (match ρ c with | some (.s (.bool t)) => if t = true then ρ a else ρ b | _ => none) = _
  rw [hc]; simp only [h]; exact hb
theorem ev_quo {t ty : TypeId} {x y : Operand} {ik : IntKind} {a b q : Int} (h : quoO ik a b = some q) (hx : ρ x = some (.s (.int ik a))) (hy : ρ y = some (.s (.int ik b))) : aPure P ρ hp (.binOp .quo t x y ty) = some (.s (.int ik q)) := by
  show (match ρ x, ρ y with | some (.s vx), some (.s vy) => (aBin P .quo t vx vy).map AV.s | _, _ => none) = _
  unfold quoO at h
  rw [hx, hy]
  simp only [aBin, aShift, Bool.false_eq_true, if_false, if_true]
  split at h
  · cases h
  · rename_i hb; injection h with h; subst h; rw [if_neg hb]; rfl
theorem ev_rem {t ty : TypeId} {x y : Operand} {ik : IntKind} {a b q : Int} (h : remO a b = some q) (hx : ρ x = some (.s (.int ik a))) (hy : ρ y = some (.s (.int ik b))) : aPure P ρ hp (.binOp .rem t x y ty) = some (.s (.int ik q)) := by
  show (match ρ x, ρ y with | some (.s vx), some (.s vy) => (aBin P .rem t vx vy).map AV.s | _, _ => none) = _
  unfold remO at h
  rw [hx, hy]
  simp only [aBin, aShift, Bool.false_eq_true, if_false, if_true]
  split at h
  · cases h
  · rename_i hb; injection h with h; subst h; rw [if_neg hb]; rfl
theorem ev_shl {t ty : TypeId} {x y : Operand} {ik jk : IntKind} {a b : Int} (h : 0 ≤ b) (hx : ρ x = some (.s (.int ik a))) (hy : ρ y = some (.s (.int jk b))) : aPure P ρ hp (.binOp .shl t x y ty) = some (.s (.int ik (shlK ik a b))) := by
  show (match ρ x, ρ y with | some (.s vx), some (.s vy) => (aBin P .shl t vx vy).map AV.s | _, _ => none) = _
  rw [hx, hy]
  simp only [aBin, aShift, if_true, h]; rfl
theorem ev_shr {t ty : TypeId} {x y : Operand} {ik jk : IntKind} {a b : Int} (h : 0 ≤ b) (hx : ρ x = some (.s (.int ik a))) (hy : ρ y = some (.s (.int jk b))) : aPure P ρ hp (.binOp .shr t x y ty) = some (.s (.int ik (shrK ik a b))) := by
  show (match ρ x, ρ y with | some (.s vx), some (.s vy) => (aBin P .shr t vx vy).map AV.s | _, _ => none) = _
  rw [hx, hy]
  simp only [aBin, aShift, if_true, h]; rfl
/-- make. -/
theorem hv_make {t e : TypeId} {l x : Operand} {by_ : Nat} {i j : Int} {ik jk : IntKind} {z : α} {r : List α} (h : makeO by_ z i j = some r) (hu : P.underlying t = some (.slice e)) (hs : sizeT P e = some k) (hb : bytesT P e = some by_) (hz : zeroT P e = some (c z)) (hk : 0 < k) (hck : (c z).length = k) (hl : ρ l = some (.s (.int ik i))) (hx : ρ x = some (.s (.int jk j))) :
    aHeap P ρ hp nx (.makeSlice t l x) = some (.own nx r.length, (nx, ⟨e, k, flat c r⟩) :: hp, nx + 1) := by
  unfold makeO at h
  split at h
  · rename_i hh
    injection h with h; subst h
    show (match ρ l, ρ x with | some l, some c => aMake P t hp nx l c | _, _ => none) = _
    rw [hl, hx]
    simp only [aMake, hu, hs, hb, hz]
    rw [if_pos ⟨hk, hck⟩, if_pos hh, flat_replicate, List.length_replicate]
  · cases h
/-- append to nil or an own row. -/
theorem app_new {m : List α} {by_ : Nat} {z : List AV} {t e : TypeId} {hp' : List (Nat × Blk)} {s x : AV} {l r : List α} (h : appO by_ l m = some r) (h0 : 0 < r.length ∨ s.isOwn = true) (hu : P.underlying t = some (.slice e)) (hs : sizeT P e = some k) (hb : bytesT P e = some by_) (hz : zeroT P e = some z) (hk : 0 < k) (hck : z.length = k)
    (ho : aOld e k hp s = some (l.length, flat c l, hp')) (hn : aNew k hp x = some (m.length, flat c m)) : aAppend P t hp nx s x = some (.own nx r.length, (nx, ⟨e, k, flat c r⟩) :: hp', nx + 1) := by
  unfold appO at h
  split at h
  · rename_i hh
    injection h with h; subst h
    rw [List.length_append] at h0
    unfold aAppend
    simp only [hu, hs, hb, hz, ho, hn]
    rw [if_pos ⟨hk, hck⟩, if_pos ⟨hh.1, hh.2, h0⟩, flat_append, List.length_append]
  · cases h
theorem new_sl (hc : ∀ x, (c x).length = k) (m : List α) : aNew k hp (sl k c m) = some (m.length, flat c m) := by
  show (if k = k then some ((m.map c).length, (m.map c).flatten) else none) = _
  rw [if_pos rfl, List.length_map]; rfl
theorem new_own {b N : Nat} {ty : TypeId} (hc : ∀ x, (c x).length = k) (h1 : ∀ x, (c x).all AV.one = true) (m : List α) (hn : N = m.length) (h : get b hp = some ⟨ty, k, flat c m⟩) : aNew k hp (.own b N) = some (m.length, flat c m) := by
  subst hn
  show (match get b hp with | some q => if q.sz = k then (if q.cs.length = m.length * k then (if q.cs.all AV.one = true then some (m.length, q.cs) else none) else none) else none | none => none) = _
  rw [h]; simp only [flat_length hc, if_true, flat_all AV.one h1]
theorem new_grow {b : Nat} {ty : TypeId} (hc : ∀ x, (c x).length = k) (h1 : ∀ x, (c x).all AV.one = true) (m : List α) (h : m ≠ [] → get b hp = some ⟨ty, k, flat c m⟩) : aNew k hp (growE b m) = some (m.length, flat c m) := by
  cases m with
  | nil => rfl
  | cons x m => exact new_own hc h1 (x :: m) rfl (h (by simp))
theorem old_nil {e : TypeId} : aOld e k hp Nl = some (([] : List α).length, flat c [], hp) := rfl
theorem old_own {b N : Nat} {e : TypeId} {hp' : List (Nat × Blk)} (hc : ∀ x, (c x).length = k) (l : List α) (hn : N = l.length) (h : get b hp = some ⟨e, k, flat c l⟩) (hd : delB b hp = hp') : aOld e k hp (.own b N) = some (l.length, flat c l, hp') := by
  subst hn
  show (match get b hp with | some q => if q.ty = e ∧ q.sz = k then (if q.cs.length = l.length * k then some (l.length, q.cs, delB b hp) else none) else none | none => none) = _
  rw [h]; simp only [flat_length hc, and_self, if_true, hd]
theorem old_grow {b : Nat} {e : TypeId} {A T : List (Nat × Blk)} (hc : ∀ x, (c x).length = k) (l : List α) (hh : hp = A ++ growH b ⟨e, k, flat c l⟩ l T) (ha : get b (A ++ [(b, ⟨e, k, flat c l⟩)]) = some ⟨e, k, flat c l⟩) (hd : delB b (A ++ T) = A ++ T) (hdA : delB b A = A) : aOld e k hp (growE b l) = some (l.length, flat c l, A ++ T) := by
  cases l with
  | nil => rw [hh]; rfl
  | cons x l =>
    refine old_own hc (x :: l) rfl ?_ ?_
    · rw [hh]
      show get b (A ++ (b, _) :: T) = _
      rw [get_append] at ha ⊢
      cases hA : get b A with
      | some q => rw [hA] at ha; exact ha
      | none => show (if b = b then _ else _) = _; rw [if_pos rfl]
    · rw [hh]
      show delB b (A ++ (b, _) :: T) = _
      have : ∀ (A : List (Nat × Blk)), delB b A = A → delB b (A ++ T) = A ++ T → ∀ q, delB b (A ++ (b, q) :: T) = A ++ T := by
        intro A
        induction A with
        | nil =>
          intro _ h q
          show (if b = b then delB b T else _) = _
          rw [if_pos rfl]; exact h
        | cons p A ih =>
          obtain ⟨d, y⟩ := p
          intro h1 h2 q
          by_cases e : b = d
          · exfalso
            have h3 : delB b A = (d, y) :: A := by
              have h1' : (if b = d then delB b A else (d, y) :: delB b A) = (d, y) :: A := h1
              rw [if_pos e] at h1'; exact h1'
            have h4 : ∀ (l : List (Nat × Blk)), (delB b l).length ≤ l.length := by
              intro l
              induction l with
              | nil => exact Nat.le_refl _
              | cons p l ih =>
                obtain ⟨d', y'⟩ := p
                show (if b = d' then delB b l else (d', y') :: delB b l).length ≤ _
                split
                · simp; omega
                · simp; omega
            have := h4 A
            rw [h3] at this; simp at this; omega
          · have h1' : (if b = d then delB b A else (d, y) :: delB b A) = (d, y) :: A := h1
            have h2' : (if b = d then delB b (A ++ T) else (d, y) :: delB b (A ++ T)) = (d, y) :: (A ++ T) := h2
            rw [if_neg e] at h1' h2'
            show (if b = d then delB b (A ++ (b, q) :: T) else (d, y) :: delB b (A ++ (b, q) :: T)) = _
            rw [if_neg e, ih (List.cons.inj h1').2 (List.cons.inj h2').2 q]; rfl
      exact this A hdA hd _
theorem hv_append {t : TypeId} {s x : Operand} {sv xv : AV} {r : AV} {hp' : List (Nat × Blk)} {nx' : Nat} (hs : ρ s = some sv) (hx : ρ x = some xv) (h : aAppend P t hp nx sv xv = some (r, hp', nx')) : aHeap P ρ hp nx (.call ⟨.builtin .append, #[s, x], #[t, t]⟩) = some (r, hp', nx') := by
  show (if t = t then (match ρ s, ρ x with | some s, some x => aAppend P t hp nx s x | _, _ => none) else none) = _
  rw [if_pos rfl, hs, hx]; exact h
theorem pure_store {t : TypeId} {x v : Operand} : aPure P ρ hp (.store t x v) = none := rfl
theorem pure_append {l : List Operand} {ts : List TypeId} : aPure P ρ hp (.call ⟨.builtin .append, l.toArray, ts.toArray⟩) = none := rfl
theorem pure_make {t : TypeId} {l x : Operand} : aPure P ρ hp (.makeSlice t l x) = none := rfl
end
end Go.Proofs.YtdfokoapenhalaaDoor.Ab
end
section
namespace Go.Proofs.YtdfokoapenhalaaDoor.Ab
open Go Go.RowKit Go.Shelf
theorem rep_s' {w : World} {S : Nat → Prop} {m : Nat → Nat × Nat} {nx : Nat} {u v : Value} (h : Rep w S m nx (.s u) v) : v = u := by cases h; rfl
theorem rep_aggs {w : World} {S : Nat → Prop} {m : Nat → Nat × Nat} {nx : Nat} (l : List Value) {v : Value} (h : Rep w S m nx (.agg (l.map .s)) v) : v = .agg l.toArray := by
  cases h with
  | agg vs hl h =>
    congr 1
    apply Array.ext (by simpa using hl.symm)
    intro i h1 h2
    have h3 : i < l.length := by simpa using h2
    have := h i (.s l[i]) vs[i] (by simp [h3]) (by simp [h1])
    rw [rep_s' this]; simp
/-- No key of the second list is in the first one. -/
def Free (T H : List (Nat × Blk)) : Prop := ∀ b k, get b T = some k → get b H = none
theorem free_nil (H : List (Nat × Blk)) : Free [] H := fun b k h => by cases h
theorem free_grow {α : Type} {b : Nat} {k : Blk} {l : List α} {T H : List (Nat × Blk)} (h : get b H = none) (hT : Free T H) : Free (growH b k l T) H := by
  cases l with
  | nil => exact hT
  | cons x l =>
    intro c q hc
    have hc' : (if c = b then some k else get c T) = some q := hc
    split at hc'
    · rename_i e; rw [e]; exact h
    · exact hT c q hc'
/-- A slice that nobody writes any more: an own one, and one that may be nil. -/
theorem to_frz {α : Type} {c : α → List AV} {k : Nat} {lo : Nat} {st : St} (t b N : Nat) (l : List α) (E : TypeId) (hl : lo ≤ st.nx) (ht : get t st.env = some (.own b N)) (hb : get b st.hp = some ⟨E, k, flat c l⟩) (hk : 0 < k) (hn : l.length = N) (hc : ∀ x, (c x).length = k) (h0 : ∀ x, (c x).all (AV.keyed 0 4) = true) (h1 : ∀ x, (c x).all AV.one = true) :
    St.to lo st ⟨(t, sl k c l) :: st.env, delB b st.hp, st.nx⟩ :=
  to_freeze t b N ⟨E, k, flat c l⟩ (l.map c) hl ht hb hk (by rw [List.length_map]; exact hn) rfl (fun e he => by obtain ⟨x, _, rfl⟩ := List.mem_map.1 he; exact hc x) (fun e he a ha => by
    obtain ⟨x, _, rfl⟩ := List.mem_map.1 he
    exact ⟨List.all_eq_true.1 (h0 x) a ha, List.all_eq_true.1 (h1 x) a ha⟩)
theorem to_freezeG {α : Type} {c : α → List AV} {k : Nat} {lo : Nat} {st : St} (t b : Nat) (l : List α) (E : TypeId) (A T : List (Nat × Blk)) (hl : lo ≤ st.nx) (ht : get t st.env = some (growE b l)) (hh : st.hp = A ++ growH b ⟨E, k, flat c l⟩ l T) (ha : get b (A ++ [(b, ⟨E, k, flat c l⟩)]) = some ⟨E, k, flat c l⟩) (hf : Free T [(b, ⟨E, k, flat c l⟩)]) (hd : delB b A = A) (hk : 0 < k) (hc : ∀ x, (c x).length = k) (h0 : ∀ x, (c x).all (AV.keyed 0 4) = true) (h1 : ∀ x, (c x).all AV.one = true) :
    St.to lo st ⟨(t, sl k c l) :: st.env, A ++ T, st.nx⟩ := by
  cases l with
  | nil =>
    have := to_put (lo := lo) t hl ht (Sub.nil k)
    rw [hh] at this; exact this
  | cons x l =>
    have hget : get b st.hp = some ⟨E, k, flat c (x :: l)⟩ := by
      rw [hh]
      show get b (A ++ (b, _) :: T) = _
      rw [get_append] at ha ⊢
      cases hA : get b A with
      | some q => rw [hA] at ha; exact ha
      | none => show (if b = b then _ else _) = _; rw [if_pos rfl]
    have h2 := to_frz (lo := lo) t b (x :: l).length (x :: l) E hl ht hget hk rfl hc h0 h1
    have hT : delB b T = T := by
      have : ∀ (T : List (Nat × Blk)), (∀ d q, get d T = some q → d ≠ b) → delB b T = T := by
        intro T
        induction T with
        | nil => intro _; rfl
        | cons p T ih =>
          obtain ⟨d, y⟩ := p
          intro hd'
          have hne : d ≠ b := hd' d y (by show (if d = d then some y else get d T) = some y; rw [if_pos rfl])
          show (if b = d then delB b T else (d, y) :: delB b T) = _
          rw [if_neg (fun e => hne e.symm)]
          have : ∀ d' q, get d' T = some q → d' ≠ b := fun d' q hq => by
            by_cases e : d' = d
            · rw [e]; exact hne
            · exact hd' d' q (by show (if d' = d then some y else get d' T) = some q; rw [if_neg e]; exact hq)
          rw [ih this]
      exact this T (fun d q hq e => by
        have := hf d q hq
        subst e
        have h3 : (if d = d then some (⟨E, k, flat c (x :: l)⟩ : Blk) else none) = none := this
        rw [if_pos rfl] at h3; cases h3)
    have hdel : delB b st.hp = A ++ T := by
      rw [hh]
      show delB b (A ++ (b, _) :: T) = _
      have : ∀ (A : List (Nat × Blk)), delB b A = A → ∀ q, delB b (A ++ (b, q) :: T) = A ++ T := by
        intro A
        induction A with
        | nil => intro _ q; show (if b = b then delB b T else _) = _; rw [if_pos rfl, hT]; rfl
        | cons p A ih =>
          obtain ⟨d, y⟩ := p
          intro h1 q
          by_cases e : b = d
          · exfalso
            have h3 : delB b A = (d, y) :: A := by
              have h1' : (if b = d then delB b A else (d, y) :: delB b A) = (d, y) :: A := h1
              rw [if_pos e] at h1'; exact h1'
            have h4 : ∀ (l : List (Nat × Blk)), (delB b l).length ≤ l.length := by
              intro l
              induction l with
              | nil => exact Nat.le_refl _
              | cons p l ih =>
                obtain ⟨d', y'⟩ := p
                show (if b = d' then delB b l else (d', y') :: delB b l).length ≤ _
                split
                · simp; omega
                · simp; omega
            have := h4 A
            rw [h3] at this; simp at this; omega
          · have h1' : (if b = d then delB b A else (d, y) :: delB b A) = (d, y) :: A := h1
            rw [if_neg e] at h1'
            show (if b = d then delB b (A ++ (b, q) :: T) else (d, y) :: delB b (A ++ (b, q) :: T)) = _
            rw [if_neg e, ih (List.cons.inj h1').2 q]; rfl
      exact this A hd _
    rw [hdel] at h2; exact h2
structure Wp (P : Program) (n lo : Nat) (c : Code) (Q : Exit → St → Prop) (st : St) : Prop where
  out : awp P n lo c Q st
structure WOps (P : Program) (n : Nat) (ops : Array Oper) (l : List Oper) (K : St → Prop) (st : St) : Prop where
  out : aOps P n ops l K st
structure WMix (P : Program) (n : Nat) (ops : Array Oper) (l : List Oper) (K : St → Prop) (st : St) : Prop where
  out : aMix P n ops l K st
/-- An operation leads from a state to another one. -/
structure OpTo (P : Program) (n : Nat) (op : Op) (d : Option Tmp) (st st' : St) : Prop where
  run : ∀ K : St → Prop, K st' → aOp P n ⟨d, op, 0, "", #[], none⟩ K K st
structure OpHTo (P : Program) (n : Nat) (op : Op) (d : Option Tmp) (st st' : St) : Prop where
  run : ∀ K : St → Prop, K st' → aOpH P n ⟨d, op, 0, "", #[], none⟩ K K st
section
variable {P : Program} {n lo : Nat} {ops : Array Oper} {L : List Oper} {K : St → Prop} {st : St} {Q : Exit → St → Prop}
theorem w_mono {A A' : St → Prop} (h : ∀ st st', St.to lo st st' → A st' → K st) (ha : ∀ st, A' st → A st) : ∀ st st', St.to lo st st' → A' st' → K st := fun st st' h1 h2 => h st st' h1 (ha st' h2)
theorem w_reg0 {id : Nat} {l : List Oper} (h : WOps P n l.toArray (l.drop 0) (Q .normal) st) : Wp P n lo (.region id l.toArray false) Q st := ⟨awp_reg0 h.out⟩
theorem w_mix0 {id : Nat} {l : List Oper} (hm : P.follows .mixedOrders = true) (hd : drawAny l = true) (h : WMix P n l.toArray (l.drop 0) (Q .normal) st) : Wp P n lo (.region id l.toArray true) Q st := ⟨awp_mix0 hm hd h.out⟩
theorem w_reg {id : Nat} {l : List Oper} {y : Code} (st' : St) (h : trimTo st' (rOps P n l st) = some st') (hl : lo ≤ st'.nx) (hk : Wp P n lo y Q st') : Wp P n lo (.seq (.region id l.toArray false) y) Q st := ⟨reg_seq st' h hl hk.out⟩
theorem w_regF {id : Nat} {l : List Oper} {y : Code} (cs : List Bool) (st' : St) (hm : P.follows .mixedOrders = true) (hd : drawOk l.toArray l.toArray.size = true) (h : trimTo st' (rFree P n cs l st) = some st') (hl : lo ≤ st'.nx) (hk : Wp P n lo y Q st') : Wp P n lo (.seq (.region id l.toArray true) y) Q st := ⟨reg_seqF cs st' hm hd h hl hk.out⟩
theorem w_regD {id : Nat} {l : List Oper} {y : Code} (st' : St) (hm : P.follows .mixedOrders = true) (hd : drawAny l = true) (h : trimTo st' (rMix P n l st) = some st') (hl : lo ≤ st'.nx) (hk : Wp P n lo y Q st') : Wp P n lo (.seq (.region id l.toArray true) y) Q st := ⟨reg_seqD st' hm hd h hl hk.out⟩
theorem w_seq {x y : Code} (h : ∀ K : St → Prop, (∀ st st', St.to lo st st' → Wp P n lo y Q st' → K st) → Wp P n lo x (aThen K Q) st) : Wp P n lo (.seq x y) Q st :=
  ⟨awp_seq (fun K hK => (h K (fun st st' h1 h2 => hK st st' h1 h2.out)).out)⟩
theorem w_assoc {a b c : Code} (h : Wp P n lo (.seq a (.seq b c)) Q st) : Wp P n lo (.seq (.seq a b) c) Q st := ⟨awp_assoc h.out⟩
theorem w_block {id : Nat} {c : Code} (h : Wp P n lo c (aIn id Q) st) : Wp P n lo (.block id c) Q st := ⟨awp_block h.out⟩
theorem w_scope {c : Code} (h : Wp P n lo c (aNoGoto Q) st) : Wp P n lo (.scope c) Q st := ⟨awp_scope h.out⟩
theorem w_skip (h : Q .normal st) : Wp P n lo .skip Q st := ⟨h⟩
theorem w_exit {id : Nat} (h : Q (.exit id) st) : Wp P n lo (.exit id) Q st := ⟨h⟩
theorem w_ret (h : Q .ret st) : Wp P n lo .ret Q st := ⟨h⟩
theorem w_condT {c : Operand} {x y : Code} {b : Bool} (hc : aEv st.E c = some (.s (.bool b))) (hb : b = true) (ht : Wp P n lo x Q st) : Wp P n lo (.cond c x y) Q st := ⟨awp_condT hc hb ht.out⟩
theorem w_condF {c : Operand} {x y : Code} {b : Bool} (hc : aEv st.E c = some (.s (.bool b))) (hb : b = false) (ht : Wp P n lo y Q st) : Wp P n lo (.cond c x y) Q st := ⟨awp_condF hc hb ht.out⟩
theorem w_ite {α : Type} {A B : Option α} {v : α} {b : Bool} {c : Operand} {x y : Code} (h : (if b = true then A else B) = some v) (hc : aEv st.E c = some (.s (.bool b))) (ht : b = true → A = some v → Wp P n lo x Q st) (hf : b = false → B = some v → Wp P n lo y Q st) : Wp P n lo (.cond c x y) Q st :=
  ⟨awp_ite h hc (fun a b => (ht a b).out) (fun a b => (hf a b).out)⟩
theorem w_cut {ρ τ : Type} {X : Option (ρ ⊕ τ)} {REST : ρ → Option τ} {fin : τ} {x y : Code} (h : bindF X REST = some fin) (g : ρ → St)
    (hx : ∀ o, X = some o → (∀ v, o = .inr v → v = fin) → ∀ K : St → Prop, (∀ e st', o = .inl e → St.to lo st' (g e) → K st') → Wp P n lo x (aThen K Q) st) (hy : ∀ e, REST e = some fin → Wp P n lo y Q (g e)) : Wp P n lo (.seq x y) Q st :=
  ⟨awp_cut h g (fun o h1 h2 K h3 => (hx o h1 h2 K h3).out) (fun e h => (hy e h).out)⟩
theorem w_loopO {σ ρ : Type} {body : σ → Option (σ ⊕ ρ)} {s0 : σ} {r : ρ} {c : Code} (h : loopO body s0 = some r) (f : σ → St) (hs : St.to lo st (f s0))
    (round : ∀ s o, body s = some o → (∀ e, o = .inr e → e = r) → ∀ K : St → Prop, (∀ s' st', o = .inl s' → St.to lo st' (f s') → K st') → Wp P n lo c (aThen K Q) (f s)) : Wp P n lo (.loop c) Q st :=
  ⟨awp_loopO h f hs (fun s o h1 h2 K h3 => (round s o h1 h2 K h3).out)⟩
theorem spec_of_wp {f : FuncId} {fn : Func} {c : Code} {args : List AV} {hp : List (Nat × Blk)} {nx : Nat} {r : AV} {hp' : List (Nat × Blk)} {nx' : Nat} {rs : List ResultVar}
    (hf : P.funcs[f]? = some fn) (hname : (fn.name == "runtime.NumGoroutine") = false) (hb : fn.body = some c) (hn : fn.ntmps = n) (hrs : fn.results.toList = rs) (ha : args.length ≤ n)
    (h : Wp P n nx c (aRetF P rs nx r hp' nx') ⟨initEnv 0 args, hp, nx⟩) : Spec P f args hp nx r hp' nx' := spec_of_awpF hf hname hb hn hrs ha h.out
theorem ops_fin' {A : St → Prop} {l : List Oper} (hK : ∀ st st', St.to lo st st' → A st' → K st) (st' : St) (h : trimTo st' (rOps P n l st) = some st') (hl : lo ≤ st'.nx) (hk : A st') : WOps P n ops l K st := ⟨ops_fin hK st' h hl hk⟩
theorem mix_fin' {A : St → Prop} {l : List Oper} (hK : ∀ st st', St.to lo st st' → A st' → K st) (st' : St) (h : trimTo st' (rMix P n l st) = some st') (hl : lo ≤ st'.nx) (hk : A st') : WMix P n ops l K st := ⟨mix_fin hK st' h hl hk⟩
theorem dd_run (j m : Nat) (hm : Nat.ble j m = true) (h : (rOps P n ((L.drop j).take (m - j)) st).isSome = true) (hk : WOps P n ops (L.drop m) K ((rOps P n ((L.drop j).take (m - j)) st).getD st)) : WOps P n ops (L.drop j) K st := ⟨d_run j m hm h hk.out⟩
theorem dd_runG (j m g : Nat) (want : Bool) (hm : Nat.ble j m = true) {b : Bool} (hy : ((ops[g]?).bind (·.dst)).bind st.E = some (.s (.bool b))) (hb : b = want) (h : (rOpsG P n ops g want ((L.drop j).take (m - j)) st).isSome = true) (hk : WOps P n ops (L.drop m) K ((rOpsG P n ops g want ((L.drop j).take (m - j)) st).getD st)) : WOps P n ops (L.drop j) K st := ⟨d_runG j m g want hm hy hb h hk.out⟩
theorem dd_skip (j m g : Nat) (want : Bool) (hm : Nat.ble j m = true) {b : Bool} (hy : ((ops[g]?).bind (·.dst)).bind st.E = some (.s (.bool b))) (hb : b = !want) (h : (rSkip n ops g want ((L.drop j).take (m - j)) st).isSome = true) (hk : WOps P n ops (L.drop m) K ((rSkip n ops g want ((L.drop j).take (m - j)) st).getD st)) : WOps P n ops (L.drop j) K st := ⟨d_skip j m g want hm hy hb h hk.out⟩
theorem dd_skipU (j m g : Nat) (want : Bool) (hm : Nat.ble j m = true) (hy : ((ops[g]?).bind (·.dst)).bind st.E = some (.s undef)) (h : (rSkip n ops g want ((L.drop j).take (m - j)) st).isSome = true) (hk : WOps P n ops (L.drop m) K ((rSkip n ops g want ((L.drop j).take (m - j)) st).getD st)) : WOps P n ops (L.drop j) K st := ⟨d_skipU j m g want hm hy h hk.out⟩
theorem dd_one (j : Nat) (op : Op) (d : Option Tmp) {st' : St} (ho : atOp L j = some (op, d, none)) (h : OpTo P n op d st st') (hk : WOps P n ops (L.drop (j + 1)) K st') : WOps P n ops (L.drop j) K st := ⟨d_one j op d ho (h.run _ hk.out)⟩
theorem dd_oneG (j : Nat) (op : Op) (d : Option Tmp) (g : Nat) (want : Bool) {b : Bool} {st' : St} (ho : atOp L j = some (op, d, some (g, want))) (hy : ((ops[g]?).bind (·.dst)).bind st.E = some (.s (.bool b))) (hb : b = want) (h : OpTo P n op d st st') (hk : WOps P n ops (L.drop (j + 1)) K st') : WOps P n ops (L.drop j) K st := ⟨d_oneG j op d g want ho hy hb (h.run _ hk.out)⟩
theorem dd_nil (j : Nat) (hl : (L.drop j).isEmpty = true) (h : K st) : WOps P n ops (L.drop j) K st := ⟨d_nil j hl h⟩
theorem mm_nil (j : Nat) (hl : (L.drop j).isEmpty = true) (h : K st) : WMix P n ops (L.drop j) K st := ⟨m_nil j hl h⟩
theorem mm_run (j m : Nat) (hm : Nat.ble j m = true) (h : (rOpsH P n ((L.drop j).take (m - j)) st).isSome = true) (hk : WMix P n ops (L.drop m) K ((rOpsH P n ((L.drop j).take (m - j)) st).getD st)) : WMix P n ops (L.drop j) K st := ⟨m_run j m hm h hk.out⟩
theorem mm_one (j : Nat) (op : Op) (d : Option Tmp) {st' : St} (ho : atOp L j = some (op, d, none)) (hh : heapy op = false) (h : OpHTo P n op d st st') (hk : WMix P n ops (L.drop (j + 1)) K st') : WMix P n ops (L.drop j) K st := ⟨m_one j op d ho hh (h.run _ hk.out)⟩
theorem mm_oneG (j : Nat) (op : Op) (d : Option Tmp) (g : Nat) (want : Bool) {b : Bool} {st' : St} (ho : atOp L j = some (op, d, some (g, want))) (hh : heapy op = false) (hy : ((ops[g]?).bind (·.dst)).bind st.E = some (.s (.bool b))) (hb : b = want) (h : OpHTo P n op d st st') (hk : WMix P n ops (L.drop (j + 1)) K st') : WMix P n ops (L.drop j) K st := ⟨m_oneG j op d g want ho hh hy hb (h.run _ hk.out)⟩
theorem mm_skip (j : Nat) (op : Op) (d : Option Tmp) (g : Nat) (want : Bool) {b : Bool} (ho : atOp L j = some (op, d, some (g, want))) (hh : heapy op = false) (hy : ((ops[g]?).bind (·.dst)).bind st.E = some (.s (.bool b))) (hb : b = !want) (hd : dstB n d = true) (h : WMix P n ops (L.drop (j + 1)) K (st.put d (.s undef))) : WMix P n ops (L.drop j) K st := ⟨m_skip j op d g want ho hh hy hb hd h.out⟩
theorem mm_skipU (j : Nat) (op : Op) (d : Option Tmp) (g : Nat) (want : Bool) (ho : atOp L j = some (op, d, some (g, want))) (hh : heapy op = false) (hy : ((ops[g]?).bind (·.dst)).bind st.E = some (.s undef)) (hd : dstB n d = true) (h : WMix P n ops (L.drop (j + 1)) K (st.put d (.s undef))) : WMix P n ops (L.drop j) K st := ⟨m_skipU j op d g want ho hh hy hd h.out⟩
theorem mm_ops (j : Nat) (op : Op) (d : Option Tmp) (g : Option (Nat × Bool)) (ho : atOp L j = some (op, d, g)) (hh : heapy op = true) (h : WOps P n ops (L.drop j) K st) : WMix P n ops (L.drop j) K st := ⟨m_ops j op d g ho hh h.out⟩
variable {op : Op} {d : Option Tmp}
theorem o_pure (x : AV) (h : aPure P (aEv st.E) st.hp op = some x) (hd : dstB n d = true) : OpTo P n op d st (st.put d x) := ⟨fun _ hk => op_pure x h (dstB_ok hd) hk⟩
theorem o_heap (x : AV) (hp : List (Nat × Blk)) (nx : Nat) (h0 : aPure P (aEv st.E) st.hp op = none) (h : aHeap P (aEv st.E) st.hp st.nx op = some (x, hp, nx)) (hd : dstB n d = true) : OpTo P n op d st ((St.mk st.env hp nx).put d x) := ⟨fun _ hk => op_heap x hp nx h0 h (dstB_ok hd) hk⟩
theorem o_cmp {bo : BinOp} {t ty : TypeId} {p q : Operand} {x y : AV} (b : Bool) (h0 : aPure P (aEv st.E) st.hp (.binOp bo t p q ty) = none) (hx : aEv st.E p = some x) (hy : aEv st.E q = some y) (he : EqOk P bo t x y b) (hd : dstB n d = true) : OpTo P n (.binOp bo t p q ty) d st (st.put d (.s (.bool b))) :=
  ⟨fun _ hk => op_cmp b rfl h0 hx hy he (dstB_ok hd) hk⟩
theorem oH_pure (x : AV) (h : aPure P (aEv st.E) st.hp op = some x) (hd : dstB n d = true) : OpHTo P n op d st (st.put d x) := ⟨fun _ hk => opH_pure x h (dstB_ok hd) hk⟩
theorem oH_cmp {bo : BinOp} {t ty : TypeId} {p q : Operand} {x y : AV} (b : Bool) (h0 : aPure P (aEv st.E) st.hp (.binOp bo t p q ty) = none) (hx : aEv st.E p = some x) (hy : aEv st.E q = some y) (he : EqOk P bo t x y b) (hd : dstB n d = true) : OpHTo P n (.binOp bo t p q ty) d st (st.put d (.s (.bool b))) :=
  ⟨fun _ hk => opH_cmp b rfl h0 hx hy he (dstB_ok hd) hk⟩
/-- Whom an operation calls, with what. -/
def callee (st : St) (op : Op) : Option (FuncId × List AV) := calleeOf st ⟨none, op, 0, "", #[], none⟩
def calleeY (st : St) (op : Op) : Option (FuncId × List AV) := calleeX st ⟨none, op, 0, "", #[], none⟩
theorem callee_ofY {op : Op} {d : Option Tmp} {x : Option (FuncId × List AV)} (h : calleeY st op = x) : calleeX st ⟨d, op, 0, "", #[], none⟩ = x := h
theorem callee_of {op : Op} {d : Option Tmp} {x : Option (FuncId × List AV)} (h : callee st op = x) : calleeOf st ⟨d, op, 0, "", #[], none⟩ = x := h
/-- The state behind a call. -/
def behind (st : St) (d : Option Tmp) (ks pk : List Nat) (hp1 hp1' : List (Nat × Blk)) (k : Nat) (r : AV) : St := (St.mk st.env (renH (sg ks st.nx) pk hp1' ++ frame (renH (sg ks st.nx) pk hp1) st.hp) (st.nx + k)).put d (r.ren (sg ks st.nx) 4)
theorem o_callS {g : FuncId} {args : List AV} {hp1 hp1' : List (Nat × Blk)} {r : AV} {n1 n' : Nat} {pk : List Nat} (ks : List Nat) (h : SpecK P pk g args hp1 n1 r hp1' n') (xs : List AV) (hcall : calleeY st op = some (g, xs)) (hs : SubL xs (args.map (AV.ren (sg ks st.nx) 4)))
    (hks : keysOk ks n1 st.nx = true) (hl : look st.hp (renH (sg ks st.nx) pk hp1) = (renH (sg ks st.nx) pk hp1).map (fun p => some p.2)) (hd : dstB n d = true) : OpTo P n op d st (behind st d ks pk hp1 hp1' (n' - n1) r) :=
  ⟨fun _ hk => op_callS ks h xs (callee_ofY hcall) hs hks hl hd hk⟩
theorem o_callE {g : FuncId} {args : List AV} {hp1 hp1' : List (Nat × Blk)} {r : AV} {n1 n' : Nat} {pk : List Nat} (ks : List Nat) (h : SpecK P pk g args hp1 n1 r hp1' n') (hcall : calleeY st op = some (g, args.map (AV.ren (sg ks st.nx) 4)))
    (hks : keysOk ks n1 st.nx = true) (hl : look st.hp (renH (sg ks st.nx) pk hp1) = (renH (sg ks st.nx) pk hp1).map (fun p => some p.2)) (hd : dstB n d = true) : OpTo P n op d st (behind st d ks pk hp1 hp1' (n' - n1) r) :=
  o_callS ks h _ hcall (SubL.refl _) hks hl hd
theorem frame_free {T H : List (Nat × Blk)} (h : Free T H) : frame H T = T := by
  induction T with
  | nil => rfl
  | cons p T ih =>
    obtain ⟨b, k⟩ := p
    have hb := h b k (by show (if b = b then some k else get b T) = some k; rw [if_pos rfl])
    show (match get b H with
      | some _ => frame H T
      | none => (b, k) :: frame H T) = _
    rw [hb]
    by_cases hex : ∀ c q, get c T = some q → get c H = none
    · rw [ih hex]
    · exact absurd (fun c q hc => by
        by_cases e : c = b
        · rw [e]; exact hb
        · exact h c q (by show (if c = b then some k else get c T) = some q; rw [if_neg e]; exact hc)) hex
theorem frame_app {A T H : List (Nat × Blk)} (h : Free T H) : frame H (A ++ T) = frame H A ++ T := by
  induction A with
  | nil => exact frame_free h
  | cons p A ih =>
    obtain ⟨b, k⟩ := p
    show (match get b H with
      | some _ => frame H (A ++ T)
      | none => (b, k) :: frame H (A ++ T)) = (match get b H with
      | some _ => frame H A
      | none => (b, k) :: frame H A) ++ T
    rw [ih]
    cases get b H <;> rfl
/-- A call where there are slices that may be nil. -/
theorem o_callG {g : FuncId} {args : List AV} {hp1 hp1' : List (Nat × Blk)} {r : AV} {n1 n' : Nat} {pk : List Nat} (ks : List Nat) (A T : List (Nat × Blk)) (h : SpecK P pk g args hp1 n1 r hp1' n') (xs : List AV) (hcall : calleeY st op = some (g, xs)) (hs : SubL xs (args.map (AV.ren (sg ks st.nx) 4)))
    (hks : keysOk ks n1 st.nx = true) (hl : look st.hp (renH (sg ks st.nx) pk hp1) = (renH (sg ks st.nx) pk hp1).map (fun p => some p.2)) (hA : st.hp = A ++ T) (hf : Free T (renH (sg ks st.nx) pk hp1)) (hd : dstB n d = true) :
    OpTo P n op d st ((St.mk st.env ((renH (sg ks st.nx) pk hp1' ++ frame (renH (sg ks st.nx) pk hp1) A) ++ T) (st.nx + (n' - n1))).put d (r.ren (sg ks st.nx) 4)) := by
  have := o_callS (op := op) (d := d) ks h xs hcall hs hks hl hd
  unfold behind at this
  have e : renH (sg ks st.nx) pk hp1' ++ frame (renH (sg ks st.nx) pk hp1) st.hp = (renH (sg ks st.nx) pk hp1' ++ frame (renH (sg ks st.nx) pk hp1) A) ++ T := by
    rw [hA, frame_app hf, List.append_assoc]
  rw [e] at this; exact this
theorem o_callPS {g : FuncId} {args : List AV} {r : AV} (h : SpecK P [] g args [] 0 r [] 0) (xs : List AV) (hcall : calleeY st op = some (g, xs)) (hs : SubL xs args) (hd : dstB n d = true) : OpTo P n op d st (st.put d r) :=
  ⟨fun _ hk => op_callPS h xs (callee_ofY hcall) hs hd hk⟩
theorem o_callP {g : FuncId} {args : List AV} {r : AV} (h : SpecK P [] g args [] 0 r [] 0) (hcall : calleeY st op = some (g, args)) (hd : dstB n d = true) : OpTo P n op d st (st.put d r) := o_callPS h args hcall (SubL.refl _) hd
theorem oH_callS {g : FuncId} {args : List AV} {hp1 : List (Nat × Blk)} {r : AV} {n1 : Nat} {pk : List Nat} (ks : List Nat) (h : SpecK P pk g args hp1 n1 r hp1 n1) (xs : List AV) (hcall : callee st op = some (g, xs)) (hs : SubL xs (args.map (AV.ren (sg ks st.nx) 4)))
    (hks : keysOk ks n1 st.nx = true) (hl : look st.hp (renH (sg ks st.nx) pk hp1) = (renH (sg ks st.nx) pk hp1).map (fun p => some p.2)) (hd : dstB n d = true) : OpHTo P n op d st (st.put d (r.ren (sg ks st.nx) 4)) :=
  ⟨fun _ hk => opH_callS ks h xs (callee_of hcall) hs hks hl hd hk⟩
theorem oH_callE {g : FuncId} {args : List AV} {hp1 : List (Nat × Blk)} {r : AV} {n1 : Nat} {pk : List Nat} (ks : List Nat) (h : SpecK P pk g args hp1 n1 r hp1 n1) (hcall : callee st op = some (g, args.map (AV.ren (sg ks st.nx) 4)))
    (hks : keysOk ks n1 st.nx = true) (hl : look st.hp (renH (sg ks st.nx) pk hp1) = (renH (sg ks st.nx) pk hp1).map (fun p => some p.2)) (hd : dstB n d = true) : OpHTo P n op d st (st.put d (r.ren (sg ks st.nx) 4)) :=
  oH_callS ks h _ hcall (SubL.refl _) hks hl hd
theorem oH_callPS {g : FuncId} {args : List AV} {r : AV} (h : SpecK P [] g args [] 0 r [] 0) (xs : List AV) (hcall : callee st op = some (g, xs)) (hs : SubL xs args) (hd : dstB n d = true) : OpHTo P n op d st (st.put d r) :=
  ⟨fun _ hk => opH_callPS h xs (callee_of hcall) hs hd hk⟩
theorem oH_callP {g : FuncId} {args : List AV} {r : AV} (h : SpecK P [] g args [] 0 r [] 0) (hcall : callee st op = some (g, args)) (hd : dstB n d = true) : OpHTo P n op d st (st.put d r) := oH_callPS h args hcall (SubL.refl _) hd
end
end Go.Proofs.YtdfokoapenhalaaDoor.Ab
end
