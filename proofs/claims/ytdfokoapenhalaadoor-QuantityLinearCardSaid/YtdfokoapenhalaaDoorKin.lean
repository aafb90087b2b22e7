/- Regions that draw their order, over a class of worlds: what lay there at first stays; calls may make memory. -/
import Derived.Test.YtdfokoapenhalaaDoorLib
import Derived.StillTail
namespace Go.Proofs.YtdfokoapenhalaaDoor
open Go.RowKit Go.Shelf

/-- The worlds in which all that lay in W is as it was. -/
structure Kin (W : World) where
  w : World
  below : Below W.heap.size W w
instance kinNonempty (W : World) : Nonempty (Kin W) := ⟨⟨W, Below.refl _ _⟩⟩
theorem Kin.step {W w' : World} (x : Kin W) (h : Below x.w.heap.size x.w w') : ∃ y : Kin W, w' = y.w :=
  ⟨⟨w', x.below.trans (h.mono x.below.size)⟩, rfl⟩
theorem Kin.more {W w0 w' : World} (h : Below W.heap.size W w0) (hb : Below w0.heap.size w0 w') : ∃ y : Kin W, w' = y.w :=
  ⟨⟨w', h.trans (hb.mono h.size)⟩, rfl⟩
theorem below_alloc {W w' : World} (h : Below W.heap.size W w') (o : Obj) : Below W.heap.size W (w'.alloc o) := h.alloc h.size o
theorem Kin.drewStep {W : World} (x : Kin W) (n : Nat) : ∃ y : Kin W, x.w.drewN n = y.w := ⟨⟨_, below_drewN x.below n⟩, rfl⟩
theorem Kin.here (W : World) : ∃ y : Kin W, W = y.w := ⟨⟨W, Below.refl _ _⟩, rfl⟩
theorem Kin.start {W w' : World} (h : Below W.heap.size W w') : ∃ y : Kin W, w' = y.w := ⟨⟨w', h⟩, rfl⟩
theorem Kin.cell {W : World} {a : Addr} {v : Value} (h : W.cell? a = some v) (x : Kin W) : x.w.cell? a = some v :=
  (x.below.cell (World.block_lt_of_cell? W a h)).trans h
theorem Kin.allocCell {W : World} {a : Addr} {v : Value} (h : W.cell? a = some v) (x : Kin W) (o : Obj) : (x.w.alloc o).cell? a = some v :=
  (World.cell?_alloc_lt _ _ _ (World.block_lt_of_cell? _ a (x.cell h))).trans (x.cell h)
theorem Kin.frozen {W : World} {a : Addr} {v : Value} (h : W.cell? a = some v) (x : Kin W) : x.w.frozen? a = W.frozen? a :=
  x.below.frozen (World.block_lt_of_cell? W a h)
/-- A slice's address and the cells that lie there. -/
def Row (w : World) (A : Option Addr) (cs : List Value) : Prop :=
  cs ≠ [] → ∃ b off, A = some ⟨b, off, none⟩ ∧ ∀ (j : Nat) (v : Value), cs[j]? = some v → w.cell? ⟨b, off + j, none⟩ = some v
theorem Row.keep {w w' : World} {A : Option Addr} {cs : List Value} (h : Row w A cs) (hb : Below w.heap.size w w') : Row w' A cs := fun hne => by
  obtain ⟨b, off, rfl, hc⟩ := h hne
  exact ⟨b, off, rfl, fun j v hv => (hb.cell (World.block_lt_of_cell? w _ (hc j v hv))).trans (hc j v hv)⟩
theorem Row.nil (w : World) (A : Option Addr) : Row w A [] := fun h => absurd rfl h
theorem Row.at_ {w : World} {A : Option Addr} {cs : List Value} (h : Row w A cs) {k : Nat} (hk : k < cs.length) : ∃ b off, A = some ⟨b, off, none⟩ ∧ ∀ (j : Nat) (v : Value), cs[j]? = some v → w.cell? ⟨b, off + j, none⟩ = some v :=
  h (fun e => by subst e; simp at hk)
theorem Row.drew {w : World} {A : Option Addr} {cs : List Value} (h : Row w A cs) : Row w.drew A cs := h
/-- A new block read as a slice. -/
theorem row_new (w : World) (cs : List Value) (T : TypeId) : Row (w.alloc (.cells cs.toArray T)) (some ⟨w.heap.size, 0, none⟩) cs := fun _ =>
  ⟨w.heap.size, 0, rfl, fun j v hv => by rw [World.cell?_alloc_at _ _ _ _ (by simp)]; simpa using hv⟩
/-- A slice of integers. -/
def Ints (w : World) (A : Option Addr) (l : List Int) : Prop := Row w A (l.map (Value.int .i64))
theorem Ints.keep {w w' : World} {A : Option Addr} {l : List Int} (h : Ints w A l) (hb : Below w.heap.size w w') : Ints w' A l := Row.keep h hb
theorem Ints.at_ {w : World} {A : Option Addr} {l : List Int} (h : Ints w A l) {k : Nat} (hk : k < l.length) : ∃ b off, A = some ⟨b, off, none⟩ ∧ w.cell? ⟨b, off + k, none⟩ = some (.int .i64 l[k]) := by
  obtain ⟨b, off, rfl, hc⟩ := Row.at_ h (k := k) (by simpa using hk)
  exact ⟨b, off, rfl, hc k _ (by simp [hk])⟩
/-- A box of two numbers that may be written. -/
structure Box2 (w : World) (b : Nat) (n d : Int) : Prop where
  c0 : w.cell? ⟨b, 0, none⟩ = some (.int .i64 n)
  c1 : w.cell? ⟨b, 1, none⟩ = some (.int .i64 d)
  f0 : w.frozen? ⟨b, 0, none⟩ = false
  f1 : w.frozen? ⟨b, 1, none⟩ = false
theorem Box2.keep {w w' : World} {b : Nat} {n d : Int} (h : Box2 w b n d) (hb : Below w.heap.size w w') : Box2 w' b n d :=
  have lt : b < w.heap.size := World.block_lt_of_cell? w _ h.c0
  ⟨(hb.cell (p := ⟨b, 0, none⟩) lt).trans h.c0, (hb.cell (p := ⟨b, 1, none⟩) lt).trans h.c1, (hb.frozen (p := ⟨b, 0, none⟩) lt).trans h.f0, (hb.frozen (p := ⟨b, 1, none⟩) lt).trans h.f1⟩
theorem Box2.set {w : World} {b : Nat} {n d : Int} (h : Box2 w b n d) (n' d' : Int) : Box2 ((w.setCell ⟨b, 0, none⟩ (.int .i64 n')).setCell ⟨b, 1, none⟩ (.int .i64 d')) b n' d' := by
  obtain ⟨c0, c1, f0, f1⟩ := h
  refine ⟨?_, ?_, ?_, ?_⟩ <;> go_simp
theorem Box2.other {w : World} {b b' : Nat} {n d : Int} (h : Box2 w b n d) (hne : b' ≠ b) (v0 v1 : Value) : Box2 ((w.setCell ⟨b', 0, none⟩ v0).setCell ⟨b', 1, none⟩ v1) b n d := by
  obtain ⟨c0, c1, f0, f1⟩ := h
  have e0 : ∀ (w : World) (i j : Nat) (v : Value), (w.setCell ⟨b', i, none⟩ v).cell? ⟨b, j, none⟩ = w.cell? ⟨b, j, none⟩ := fun w i j v =>
    World.cell?_setCell_other w ⟨b', i, none⟩ ⟨b, j, none⟩ v (fun e => hne (by injection e))
  have e1 : ∀ (w : World) (i j : Nat) (v : Value), (w.setCell ⟨b', i, none⟩ v).frozen? ⟨b, j, none⟩ = w.frozen? ⟨b, j, none⟩ := fun w i j v => by go_simp
  exact ⟨by rw [e0, e0]; exact c0, by rw [e0, e0]; exact c1, by rw [e1, e1]; exact f0, by rw [e1, e1]; exact f1⟩
theorem Box2.lt {w : World} {b : Nat} {n d : Int} (h : Box2 w b n d) : b < w.heap.size := World.block_lt_of_cell? w _ h.c0
theorem Box2.new (w : World) (n d : Int) (T : TypeId) : Box2 (w.alloc (.cells #[.int .i64 n, .int .i64 d] T)) w.heap.size n d := by
  refine ⟨?_, ?_, ?_, ?_⟩ <;> go_simp
/-- The class of worlds of a drawn region. -/
def InKin (W : World) (w' : World) : Prop := ∃ x : Kin W, w' = x.w
/-- A callee's contract, met in a world of the class. -/
theorem kin_call {P : Program} {f : FuncId} {args : Array Value} {W : World} {x : Kin W} {v : Value}
    (h : Calls P f args x.w fun e w' => e = .returned v ∧ Below x.w.heap.size x.w w') :
    Calls P f args x.w fun e w'' => e = .returned v ∧ ∃ y : Kin W, w'' = y.w :=
  h.mono fun _ _ ⟨he, hb⟩ => ⟨he, x.step hb⟩
/-- .. of a callee that leaves the world alone. -/
theorem kin_same {P : Program} {f : FuncId} {args : Array Value} {W : World} {x : Kin W} {v : Value}
    (h : Calls P f args x.w fun e w' => e = .returned v ∧ x.w = w') :
    Calls P f args x.w fun e w'' => e = .returned v ∧ ∃ y : Kin W, w'' = y.w :=
  h.mono fun _ _ ⟨he, hb⟩ => ⟨he, x, hb.symm⟩

/-- One walk in the order of the text serves every order. -/
theorem wp_region_kin {P : Program} {W : World} {id : Nat} {Q : Exit → Act → World → Prop} {a : Act} {w : World} {l : List Oper} (hm : P.follows .mixedOrders = true) (hB : Region.lexB .any l.toArray = true)
    (hw : Below W.heap.size W w)
    (h : wpQuiet P l.toArray (fun w' => ∃ x : Kin W, w' = x.w) (fun a' => ∀ w', (∃ x : Kin W, w' = x.w) → Q .normal a' w') l a) : (Code.region id l.toArray true).wp P Q a w :=
  wp_region_quiet (C := fun w' => ∃ x : Kin W, w' = x.w) hm hB ⟨⟨w.drew, hw.drew⟩, rfl⟩ (by simpa using h)

section
variable {P : Program} {ops : Array Oper} {md : Region.Mode} {C : World → Prop}
/-- The first operations in whatever order, each quiet in the class; L of what is behind them. -/
def headQ (P : Program) (md : Region.Mode) (ops : Array Oper) (C : World → Prop) (n : Nat) (L : Array Bool → Act → Prop) : Nat → Array Bool → Act → Prop
  | 0, listed, a => L listed a
  | f + 1, listed, a =>
    Region.ready md ops listed ≠ [] ∧ ∀ i ∈ Region.ready md ops listed, i < n ∧ qOp P ops C i (headQ P md ops C n L f (listed.setIfInBounds i true)) a
theorem wpAny_of_headQ {n g : Nat} {L : Array Bool → Act → Prop} {Q' : Exit → Act → World → Prop} (hL : ∀ listed a w, C w → L listed a → wpAny P md ops Q' g listed a w) :
    ∀ (f : Nat) (listed : Array Bool) (a : Act) (w : World), C w → headQ P md ops C n L f listed a → wpAny P md ops Q' (f + g) listed a w
  | 0, listed, a, w, hw, h => by rw [Nat.zero_add]; exact hL _ _ _ hw h
  | f + 1, listed, a, w, hw, h => by
    rw [show f + 1 + g = (f + g) + 1 by omega]
    exact ⟨fun h0 => absurd h0 h.1, fun i hi => wpOp_of_qOp hw (fun a' w' hw' h' => wpAny_of_headQ hL f _ a' w' hw' h') (h.2 i hi).2⟩
theorem headQ_first {n i : Nat} {oi : Oper} {v : Value} {L : Array Bool → Act → Prop} (hi : ops[i]? = some oi) (hsel : ∀ (j : Nat) (o : Oper) cs b, ops[j]? = some o → o.op ≠ .select cs b)
    (hs : Region.sinkB md ops n = true) (hc : Region.chainB md ops n = true) (hn : n < ops.size) (hin : i < n)
    (hdone : ∀ listed a, L listed a → ∀ j ∈ Region.ready md ops listed, n ≤ j) :
    ∀ (f : Nat) (listed : Array Bool) (a : Act), HeadInv md ops n listed →
      (∀ j oj, ops[j]? = some oj → j ≠ i → listed.getD j true = false → (∀ e ∈ oj.after, Region.binds md e = true → e.on ≠ i) → oi.apart ops oj = true) →
      i ∈ Region.ready md ops listed → YieldsIn P ops C oi v a →
      headQ P md ops C n L f (listed.setIfInBounds i true) (a.put oi.dst v) → headQ P md ops C n L (f + 1) listed a := by
  intro f
  induction f with
  | zero =>
    intro listed a inv _ hr hy H
    have hun := (mem_ready.1 hr).1
    refine ⟨fun h => (by rw [h] at hr; cases hr), fun j hj => ?_⟩
    have hjn : j < n := by
      rcases Nat.lt_or_ge j n with h | h
      · exact h
      · exact absurd hj (tail_waits hs hc hn inv _ i rfl hin hun j h)
    refine ⟨hjn, ?_⟩
    by_cases hji : j = i
    · subst hji; exact hy.qOp hi H
    · have := hdone _ _ H j (ready_mono hj hji)
      omega
  | succ f ih =>
    intro listed a inv hfree hr hy H
    have hun := (mem_ready.1 hr).1
    refine ⟨fun h => (by rw [h] at hr; cases hr), fun j hj => ?_⟩
    have hjn : j < n := by
      rcases Nat.lt_or_ge j n with h | h
      · exact h
      · exact absurd hj (tail_waits hs hc hn inv _ i rfl hin hun j h)
    refine ⟨hjn, ?_⟩
    by_cases hji : j = i
    · subst hji; exact hy.qOp hi H
    · have h1 := (H.2 j (ready_mono hj hji)).2
      obtain ⟨hjun, oj, hoj, hall⟩ := mem_ready.1 hj
      have hnot : ∀ e ∈ oj.after, Region.binds md e = true → e.on ≠ i := fun e he hb heq => by
        have h1 := hall e he hb
        rw [heq, getD_both hun] at h1
        cases h1
      have h2 := Go.qOp_put hoj (hfree j oj hoj hji hjun hnot) (fun cs b => hsel i oi cs b hi) (fun cs b => hsel j oj cs b hoj) hy h1
      have hfree' : ∀ k ok, ops[k]? = some ok → k ≠ i → (listed.setIfInBounds j true).getD k true = false →
          (∀ e ∈ ok.after, Region.binds md e = true → e.on ≠ i) → oi.apart ops ok = true := fun k ok hk hki hun hno => by
        refine hfree k ok hk hki ?_ hno
        by_cases hjk : j = k
        · subst hjk; exact hjun
        · rw [getD_set_ne true hjk] at hun; exact hun
      refine Go.qOp_mono (fun a' h3 => ih (listed.setIfInBounds j true) a' (inv.set hj hjn) hfree' (ready_mono hr (Ne.symm hji)) h3.1 ?_) h2
      rw [Array.setIfInBounds_comm _ _ hji]
      exact h3.2
theorem headQ_lex {n g : Nat} {Lq : Act → Prop} (hsel : Region.noSelect ops = true) (hs : Region.sinkB md ops n = true) (hc : Region.chainB md ops n = true) (hn : n < ops.size) :
    ∀ (l : List Oper) (k : Nat) (listed : Array Bool) (a : Act), (∀ j, j < l.length → l[j]? = ops[k + j]?) → k + l.length = n → HeadInv md ops n listed →
    Region.lexHead md ops g l.length k listed = true → wpQuiet P ops C Lq l a →
    headQ P md ops C n (fun listed' a' => Region.seqB md ops g n listed' = true ∧ Lq a') l.length listed a
  | [], k, listed, a, _, hk, _, hB, h => by
    have : k = n := by simpa using hk
    subst this
    exact ⟨by simpa [Region.lexHead] using hB, h⟩
  | o :: l, k, listed, a, hl, hk, inv, hB, h => by
    have h0 : ops[k]? = some o := by simpa using (hl 0 (by simp)).symm
    simp only [List.length_cons, Region.lexHead, Bool.and_eq_true] at hB
    obtain ⟨⟨hr, hf⟩, hB'⟩ := hB
    have hkn : k < n := by simp only [List.length_cons] at hk; omega
    have hr' : k ∈ Region.ready md ops listed := by simpa using hr
    have hst : qOp P ops C k (wpQuiet P ops C Lq l) a := by unfold qOp; simp only [h0]; exact h
    obtain ⟨v, hy, hK⟩ := yieldsIn_of_qOp h0 hst
    exact headQ_first h0 (Region.noSelect_spec hsel) hs hc hn hkn (fun listed' a' hL => seqB_ready hL.1) l.length listed a inv (Region.free_spec h0 hf) hr' hy
      (headQ_lex hsel hs hc hn l (k + 1) _ _ (fun j hj => by have := hl (j + 1) (by simp; omega); simpa [Nat.add_assoc, Nat.add_comm 1 j] using this) (by simp only [List.length_cons] at hk; omega) (inv.set hr' hkn) hB' hK)
end
/-- The same where the last operations, from number n on, come behind all others in one order: they may do anything. -/
theorem wp_region_kin_tail {P : Program} {W : World} {id : Nat} {Q : Exit → Act → World → Prop} {a : Act} {w : World} {l : List Oper} (n : Nat) (hm : P.follows .mixedOrders = true) (hB : Region.lexTailB .any l.toArray n = true)
    (hw : Below W.heap.size W w)
    (h : wpQuiet P l.toArray (fun w' => ∃ x : Kin W, w' = x.w) (fun a' => ∀ w', (∃ x : Kin W, w' = x.w) → wpList P l.toArray Q (l.drop n) a' w') (l.take n) a) : (Code.region id l.toArray true).wp P Q a w := by
  simp only [Region.lexTailB, Bool.and_eq_true, decide_eq_true_eq] at hB
  obtain ⟨⟨⟨⟨hsel, hn⟩, hs⟩, hc⟩, hlex⟩ := hB
  have hn' : n < l.length := by simpa using hn
  have htl : (l.take n).length = n := by simp; omega
  have hdl : (l.drop n).length = l.toArray.size - n := by simp
  have inv0 : HeadInv .any l.toArray n (Array.replicate l.toArray.size false) :=
    ⟨by simp, fun j oj _ hl => (by rw [getD_replicate_false] at hl; cases hl), fun t _ ht => getD_in (by simpa using ht) (getD_replicate_false _ _)⟩
  have H := headQ_lex (md := .any) (C := fun w' => ∃ x : Kin W, w' = x.w) (g := l.toArray.size - n) hsel hs hc hn (l.take n) 0 _ a (fun j hj => by
    have hj' : j < n := by rw [htl] at hj; exact hj
    simp [hj']) (by simpa using htl) inv0 (by rw [htl]; exact hlex) h
  refine wp_region_any hm ?_
  have := wpAny_of_headQ (Q' := Q) (g := l.toArray.size - n) (fun listed a' w' hw' hL => by
    have := wpAny_of_seq (md := .any) (Q' := Q) (l.drop n) n listed a' w' (fun j => by simp [List.getElem?_drop]) (by rw [hdl]; exact hL.1) (hL.2 w' hw')
    rwa [hdl] at this) _ _ _ _ ⟨⟨w.drew, hw.drew⟩, rfl⟩ H
  rw [htl, show n + (l.toArray.size - n) = l.toArray.size by omega] at this
  exact this
end Go.Proofs.YtdfokoapenhalaaDoor
