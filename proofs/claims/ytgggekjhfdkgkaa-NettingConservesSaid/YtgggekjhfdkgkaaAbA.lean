/- Abstract runs, part 1: values that stand for what lies in memory. -/
import Derived.Test.YtgggekjhfdkgkaaKin
import Derived.Deep.MidRow
import Derived.Laws.AppendOwn
import Derived.Laws.MakeOwn
import Derived.Laws.Entries
import Derived.IntWalk
namespace Go.Proofs.Ytgggekjhfdkgkaa.Ab
open Go Go.RowKit Go.Shelf

/-- An abstract value: an exact one; a struct or array; results; a slice that nobody writes; a pointer into such memory; a slice and a pointer of an own block; a function with what it captured. -/
inductive AV where
  | s (v : Value)
  | agg (cs : List AV)
  | tup (vs : List AV)
  | sl (sz : Nat) (es : List (List AV))
  | ip (cs : List AV)
  | own (b n : Nat)
  | ptr (b o : Nat)
  | fn (f : FuncId) (caps : List AV)
abbrev AV.int (n : Int) : AV := .s (.int .i64 n)
abbrev AV.bool (b : Bool) : AV := .s (.bool b)
/-- An own block: its type, the size of an element (0: a variable), its cells. -/
structure Blk where
  ty : TypeId
  sz : Nat
  cs : List AV
def get {α : Type} (n : Nat) : List (Nat × α) → Option α
  | [] => none
  | (k, v) :: l => if n = k then some v else get n l

inductive Rep (w : World) (S : Nat → Prop) (m : Nat → Nat × Nat) : Nat → AV → Value → Prop
  | s {nx : Nat} (v : Value) : Rep w S m nx (.s v) v
  | agg {nx : Nat} {cs : List AV} (vs : Array Value) (hl : cs.length = vs.size) (h : ∀ (j : Nat) (a : AV) (b : Value), cs[j]? = some a → vs[j]? = some b → Rep w S m nx a b) : Rep w S m nx (.agg cs) (.agg vs)
  | tup {nx : Nat} {cs : List AV} (vs : Array Value) (hl : cs.length = vs.size) (h : ∀ (j : Nat) (a : AV) (b : Value), cs[j]? = some a → vs[j]? = some b → Rep w S m nx a b) : Rep w S m nx (.tup cs) (.tuple vs)
  | sl0 {nx sz : Nat} (a : Option Addr) (cap : Nat) : Rep w S m nx (.sl sz []) (.slice a 0 cap)
  | sl {nx sz : Nat} {es : List (List AV)} (g off cap : Nat) (val : Nat → Nat → Value) (hg : g < w.heap.size) (hS : ¬ S g) (hz : ∀ e ∈ es, e.length = sz) (hc : ∀ (i : Nat) (e : List AV) (j : Nat) (a : AV), es[i]? = some e → e[j]? = some a → w.cell? ⟨g, off + i * sz + j, none⟩ = some (val i j))
      (ho : ∀ (i : Nat) (e : List AV) (j : Nat) (a : AV), es[i]? = some e → e[j]? = some a → (val i j).oneCell' = true)
      (h : ∀ (i : Nat) (e : List AV) (j : Nat) (a : AV), es[i]? = some e → e[j]? = some a → Rep w S m 0 a (val i j)) : Rep w S m nx (.sl sz es) (.slice (some ⟨g, off, none⟩) es.length cap)
  | ip {nx : Nat} {cs : List AV} (g off : Nat) (val : Nat → Value) (hg : g < w.heap.size) (hS : ¬ S g) (hc : ∀ (j : Nat) (a : AV), cs[j]? = some a → w.cell? ⟨g, off + j, none⟩ = some (val j)) (h : ∀ (j : Nat) (a : AV), cs[j]? = some a → Rep w S m 0 a (val j)) : Rep w S m nx (.ip cs) (.pointer (some ⟨g, off, none⟩))
  | own {nx : Nat} (b n : Nat) (hb : b < nx) : Rep w S m nx (.own b n) (.slice (some ⟨(m b).1, 0, none⟩) n (m b).2)
  | ptr {nx : Nat} (b o : Nat) (hb : b < nx) : Rep w S m nx (.ptr b o) (.pointer (some ⟨(m b).1, o, none⟩))
  | fn {nx : Nat} {f : FuncId} {cs : List AV} (vs : Array Value) (hl : cs.length = vs.size) (h : ∀ (j : Nat) (a : AV) (b : Value), cs[j]? = some a → vs[j]? = some b → Rep w S m nx a b) : Rep w S m nx (.fn f cs) (.func (.func f) #[] vs)

section
variable {w w' : World} {S S' : Nat → Prop} {m m' : Nat → Nat × Nat}
theorem Rep.mono {nx nx' : Nat} {x : AV} {v : Value} (h : Rep w S m nx x v) (hw : ∀ i, i < w.heap.size → ¬ S i → w'.heap[i]? = w.heap[i]? ∧ ¬ S' i)
    (hm : ∀ b, b < nx → m' b = m b) (hn : nx ≤ nx') : Rep w' S' m' nx' x v := by
  induction h generalizing nx' with
  | s v => exact .s v
  | agg vs hl h ih => exact .agg vs hl fun j a b ha hb => ih j a b ha hb hm hn
  | tup vs hl h ih => exact .tup vs hl fun j a b ha hb => ih j a b ha hb hm hn
  | sl0 a cap => exact .sl0 a cap
  | sl g off cap val hg hS hz hc ho h ih =>
    have hk := hw g hg hS
    have hg' : g < w'.heap.size := by
      have := Array.getElem?_eq_getElem hg
      rw [← hk.1] at this; exact (Array.getElem?_eq_some_iff.1 this).1
    exact .sl g off cap val hg' hk.2 hz (fun i e j a he ha => by rw [World.cell?_of_block (a := ⟨g, off + i * _ + j, none⟩) hk.1]; exact hc i e j a he ha) ho (fun i e j a he ha => ih i e j a he ha (fun b hb => absurd hb (by omega)) (Nat.le_refl _))
  | ip g off val hg hS hc h ih =>
    have hk := hw g hg hS
    have hg' : g < w'.heap.size := by
      have := Array.getElem?_eq_getElem hg
      rw [← hk.1] at this; exact (Array.getElem?_eq_some_iff.1 this).1
    exact .ip g off val hg' hk.2 (fun j a ha => by rw [World.cell?_of_block (a := ⟨g, off + j, none⟩) hk.1]; exact hc j a ha) (fun j a ha => ih j a ha (fun b hb => absurd hb (by omega)) (Nat.le_refl _))
  | own b n hb => rw [← hm b hb]; exact .own b n (by omega)
  | ptr b o hb => rw [← hm b hb]; exact .ptr b o (by omega)
  | fn vs hl h ih => exact .fn vs hl fun j a b ha hb => ih j a b ha hb hm hn
theorem Rep.up {nx nx' : Nat} {x : AV} {v : Value} (h : Rep w S m nx x v) (hn : nx ≤ nx') : Rep w S m nx' x v := h.mono (fun _ _ hS => ⟨rfl, hS⟩) (fun _ _ => rfl) hn
/-- All keys in a value are below a bound. -/
def AV.keyed (n : Nat) : Nat → AV → Bool
  | _, .own b _ => decide (b < n)
  | _, .ptr b _ => decide (b < n)
  | d + 1, .agg cs => cs.all (AV.keyed n d)
  | d + 1, .tup cs => cs.all (AV.keyed n d)
  | d + 1, .fn _ cs => cs.all (AV.keyed n d)
  | 0, .agg _ => false
  | 0, .tup _ => false
  | 0, .fn _ _ => false
  | _, _ => true
theorem Rep.lower {nx n : Nat} {x : AV} {v : Value} (h : Rep w S m nx x v) : ∀ d, AV.keyed n d x = true → Rep w S m n x v := by
  have key : ∀ (cs : List AV) (d : Nat), cs.all (AV.keyed n d) = true → ∀ (j : Nat) (a : AV), cs[j]? = some a → AV.keyed n d a = true := fun cs d hd j a ha =>
    List.all_eq_true.1 hd a (List.mem_of_getElem? ha)
  induction h with
  | s v => exact fun _ _ => .s v
  | sl0 a cap => exact fun _ _ => .sl0 a cap
  | sl g off cap val hg hS hz hc ho h ih => exact fun _ _ => .sl g off cap val hg hS hz hc ho h
  | ip g off val hg hS hc h ih => exact fun _ _ => .ip g off val hg hS hc h
  | own b n hb => exact fun d hd => .own b n (by cases d <;> simpa [AV.keyed] using hd)
  | ptr b n hb => exact fun d hd => .ptr b n (by cases d <;> simpa [AV.keyed] using hd)
  | agg vs hl h ih =>
    intro d hd
    cases d with
    | zero => simp [AV.keyed] at hd
    | succ d => exact .agg vs hl fun j a b ha hb => ih j a b ha hb d (key _ d (by simpa [AV.keyed] using hd) j a ha)
  | tup vs hl h ih =>
    intro d hd
    cases d with
    | zero => simp [AV.keyed] at hd
    | succ d => exact .tup vs hl fun j a b ha hb => ih j a b ha hb d (key _ d (by simpa [AV.keyed] using hd) j a ha)
  | fn vs hl h ih =>
    intro d hd
    cases d with
    | zero => simp [AV.keyed] at hd
    | succ d => exact .fn vs hl fun j a b ha hb => ih j a b ha hb d (key _ d (by simpa [AV.keyed] using hd) j a ha)

/-- What a call was entered with: the world, the blocks that it may write, the blocks that somebody may write, and the number of its slots. -/
structure Fr where
  w0 : World
  S0 : Nat → Prop
  Si : Nat → Prop
  n : Nat
  mi : Nat → Nat × Nat
  ni : Nat
/-- The own blocks in memory. -/
structure Mem (F : Fr) (hp : List (Nat × Blk)) (nx : Nat) (w : World) (S : Nat → Prop) (m : Nat → Nat × Nat) : Prop where
  os : w.os = F.w0.os
  tape : w.tape = F.w0.tape
  output : w.output = F.w0.output
  size : F.w0.heap.size ≤ w.heap.size
  keep : ∀ i, i < F.w0.heap.size → ¬ F.S0 i → w.heap[i]? = F.w0.heap[i]?
  old : ∀ i, i < F.w0.heap.size → (S i → F.Si i) ∧ (F.Si i → ¬ F.S0 i → S i)
  agree : ∀ b, b < F.ni → m b = F.mi b
  nile : F.ni ≤ nx
  lt : ∀ i, S i → i < w.heap.size
  live : ∀ b k, get b hp = some k → b < nx ∧ S (m b).1 ∧ (F.S0 (m b).1 ∨ F.w0.heap.size ≤ (m b).1)
  cells : ∀ b k, get b hp = some k → ∃ cur, w.heap[(m b).1]? = some (.cells cur k.ty (0, 0)) ∧ (∀ (j : Nat) (x : AV), k.cs[j]? = some x → ∃ v, cur[j]? = some v ∧ Rep w S m nx x v) ∧ (k.sz ≠ 0 → cur.size = (m b).2 * k.sz ∧ (m b).2 ≤ maxLen)
  inj : ∀ b b' k k', get b hp = some k → get b' hp = some k' → (m b).1 = (m b').1 → b = b'
/-- The slots and the own blocks, as they lie in memory. -/
def SimE (F : Fr) (E : Nat → Option AV) (hp : List (Nat × Blk)) (nx : Nat) (a : Act) (w : World) : Prop :=
  a.defers = [] ∧ a.tmps.size = F.n ∧ ∃ S m, Mem F hp nx w S m ∧ ∀ t x, E t = some x → t < F.n ∧ Rep w S m nx x (a.tmps.getD t undef)

/-- A world in which all that lay there is as it was still bears the own blocks. -/
theorem Mem.below {F : Fr} {hp : List (Nat × Blk)} {nx : Nat} (h : Mem F hp nx w S m) (hb : Below w.heap.size w w') : Mem F hp nx w' S m := by
  have hm : ∀ {x v}, Rep w S m nx x v → Rep w' S m nx x v := fun hr => hr.mono (fun i hi hS => ⟨hb.block i hi, hS⟩) (fun _ _ => rfl) (Nat.le_refl _)
  refine ⟨hb.os.trans h.os, hb.tape.trans h.tape, hb.output.trans h.output, Nat.le_trans h.size hb.size, fun i hi hn => (hb.block i (Nat.lt_of_lt_of_le hi h.size)).trans (h.keep i hi hn), h.old, h.agree, h.nile,
    fun i hi => Nat.lt_of_lt_of_le (h.lt i hi) hb.size, h.live, fun b k hg => ?_, h.inj⟩
  obtain ⟨cur, h1, h2, h3⟩ := h.cells b k hg
  refine ⟨cur, (hb.block _ (h.lt _ (h.live b k hg).2.1)).trans h1, fun j x hx => ?_, h3⟩
  obtain ⟨v, hv, hr⟩ := h2 j x hx
  exact ⟨v, hv, hm hr⟩
theorem Rep.belowW {nx : Nat} {x : AV} {v : Value} (h : Rep w S m nx x v) (hb : Below w.heap.size w w') : Rep w' S m nx x v :=
  h.mono (fun i hi hS => ⟨hb.block i hi, hS⟩) (fun _ _ => rfl) (Nat.le_refl _)
theorem below_drew (w : World) : Below w.heap.size w w.drew := (Below.refl _ _).drew
end
/-- The value of an operand. -/
def aEv (E : Nat → Option AV) : Operand → Option AV
  | .tmp t => E t
  | .const v => some (.s v)
  | .global _ => none
  | .func f => some (.fn f [])
theorem aEv_rep {F : Fr} {E : Nat → Option AV} {nx : Nat} {a : Act} {w : World} {S : Nat → Prop} {m : Nat → Nat × Nat} (hE : ∀ t x, E t = some x → t < F.n ∧ Rep w S m nx x (a.tmps.getD t undef)) {o : Operand} {x : AV} (h : aEv E o = some x) :
    Rep w S m nx x (a.eval o) := by
  cases o with
  | tmp t => exact (hE t x h).2
  | const v => injection h with h; subst h; exact .s v
  | global g => cases h
  | func f => injection h with h; subst h; exact .fn #[] rfl (fun j a b ha _ => by cases j <;> cases ha)
end Go.Proofs.Ytgggekjhfdkgkaa.Ab
