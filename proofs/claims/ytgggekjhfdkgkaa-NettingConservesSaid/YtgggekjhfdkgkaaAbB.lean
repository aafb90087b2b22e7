/- Abstract runs, part 2: operations that write nothing. -/
import Derived.Test.YtgggekjhfdkgkaaAbA
namespace Go.Proofs.Ytgggekjhfdkgkaa.Ab
open Go Go.RowKit Go.Shelf

def sizeT (P : Program) (t : TypeId) : Option Nat := (P.info? t).map (·.size)
/-- A part of a row of cells. -/
def aPart (P : Program) (t : TypeId) (cs : List AV) (off : Nat) : Option AV :=
  match P.underlying t with
  | none => none
  | some d => if d.isRow = true then (match sizeT P t with
      | none => none
      | some k => if off + k ≤ cs.length then some (.agg ((cs.drop off).take k)) else none) else cs[off]?
def aLoad (P : Program) (t : TypeId) (hp : List (Nat × Blk)) : AV → Option AV
  | .ptr b o => match get b hp with
    | some k => aPart P t k.cs o
    | none => none
  | .ip cs => aPart P t cs 0
  | _ => none
def aFieldAt (P : Program) (t : TypeId) (f : Nat) (x : AV) : Option AV :=
  match P.underlying t with
  | some (.struct fs) => match fs[f]? with
    | some g => if sizeT P g.type = some 0 ∨ sizeT P g.type = none then none else match x with
      | .ptr b o => some (.ptr b (o + g.offset))
      | .ip cs => some (.ip (cs.drop g.offset))
      | _ => none
    | none => none
  | _ => none
def aIndexAt (P : Program) (t : TypeId) (x i : AV) : Option AV :=
  match i with
  | .s (.int _ i) => (match P.underlying t with
    | some (.slice e) => (match sizeT P e with
      | none => none
      | some k => match x with
        | .sl sz es => if sz = k ∧ 0 ≤ i then (es[i.toNat]?).map .ip else none
        | .own b n => if 0 ≤ i ∧ i < n then some (.ptr b (i.toNat * k)) else none
        | _ => none)
    | some (.array n e) => (match sizeT P e with
      | none => none
      | some k => if 0 ≤ i ∧ i < n then (match x with
        | .ptr b o => some (.ptr b (o + i.toNat * k))
        | .ip cs => some (.ip (cs.drop (i.toNat * k)))
        | _ => none) else none)
    | _ => none)
  | _ => none
def aField (P : Program) (t : TypeId) (f : Nat) (x : AV) : Option AV :=
  match x with
  | .agg cs => (match P.underlying t with
    | some (.struct fs) => (match fs[f]? with
      | some g => aPart P g.type cs g.offset
      | none => none)
    | _ => none)
  | _ => none
def aIndex (P : Program) (t : TypeId) (x i : AV) : Option AV :=
  match i with
  | .s (.int _ i) => (match x with
    | .agg cs => (match P.underlying t with
      | some (.array n e) => (match sizeT P e with
        | some k => if 0 ≤ i ∧ i < n then aPart P e cs (i.toNat * k) else none
        | none => none)
      | _ => none)
    | .s (.string s) => (match P.underlying t with
      | some .string => if 0 ≤ i then (s[i.toNat]?).map (fun b => .s (.int .u8 b.toNat)) else none
      | _ => none)
    | _ => none)
  | _ => none
def aShift : BinOp → Bool
  | .shl => true
  | .shr => true
  | _ => false
def aBin (P : Program) (op : BinOp) (t : TypeId) (x y : Value) : Option Value :=
  match x, y with
  | .int k a, .int k' b => if aShift op = true then (if 0 ≤ b then some (.int k (if op = .shl then k.wrap (a * 2 ^ min b.toNat k.bits) else a.fdiv (2 ^ min b.toNat k.bits))) else none) else if k = k' then (match op with
    | .and => some (.int k (k.wrap ((BitVec.ofInt k.bits a &&& BitVec.ofInt k.bits b).toNat : Int)))
    | .or => some (.int k (k.wrap ((BitVec.ofInt k.bits a ||| BitVec.ofInt k.bits b).toNat : Int)))
    | .xor => some (.int k (k.wrap ((BitVec.ofInt k.bits a ^^^ BitVec.ofInt k.bits b).toNat : Int)))
    | .add => some (.int k (k.wrap (a + b)))
    | .sub => some (.int k (k.wrap (a - b)))
    | .mul => some (.int k (k.wrap (a * b)))
    | .quo => if b = 0 then none else some (.int k (k.wrap (a.tdiv b)))
    | .rem => if b = 0 then none else some (.int k (a.tmod b))
    | .eql => some (.bool (a == b))
    | .neq => some (.bool (a != b))
    | .lss => some (.bool (a < b))
    | .leq => some (.bool (a ≤ b))
    | .gtr => some (.bool (a > b))
    | .geq => some (.bool (a ≥ b))
    | _ => none) else none
  | .bool a, .bool b => (match op, P.underlying t with
    | .eql, some .bool => some (.bool (a == b))
    | .neq, some .bool => some (.bool (!(a == b)))
    | _, _ => none)
  | .string a, .string b => (match op with
    | .add => if a.size + b.size ≤ 9223372036854775807 then some (.string (a ++ b)) else none
    | .eql => some (.bool (a.toList == b.toList))
    | .neq => some (.bool (!(a.toList == b.toList)))
    | .lss => some (.bool (Op.bytesLess a.toList b.toList))
    | .leq => some (.bool (Op.bytesLess a.toList b.toList || a.toList == b.toList))
    | .gtr => some (.bool (!(Op.bytesLess a.toList b.toList || a.toList == b.toList)))
    | .geq => some (.bool (!(Op.bytesLess a.toList b.toList)))
    | _ => none)
  | _, _ => none
def aUn (op : UnOp) (x : Value) : Option Value :=
  match op, x with
  | .neg, .int k n => some (.int k (k.wrap (0 - n)))
  | .not, .bool b => some (.bool (!b))
  | _, _ => none
def aConv (P : Program) (src dst : TypeId) (x : Value) : Option Value :=
  match P.underlying src, P.underlying dst, x with
  | some (.int _), some (.int k), .int _ n => some (.int k (k.wrap n))
  | some .string, some .string, .string s => some (.string s)
  | _, _, _ => none
def aLen (P : Program) (t : TypeId) (x : AV) : Option AV :=
  match P.underlying t with
  | some (.slice _) => (match x with
    | .sl _ es => some (.s (.int .i64 es.length))
    | .own _ n => some (.s (.int .i64 n))
    | .s (.slice _ n _) => some (.s (.int .i64 n))
    | _ => none)
  | some .string => (match x with
    | .s (.string s) => some (.s (.int .i64 s.size))
    | _ => none)
  | some (.array n _) => some (.s (.int .i64 n))
  | _ => none
def aMin (x y : Value) : Option Value :=
  match x, y with
  | .int k a, .int _ b => some (.int k (if b < a then b else a))
  | _, _ => none
def aMax (x y : Value) : Option Value :=
  match x, y with
  | .int k a, .int _ b => some (.int k (if b > a then b else a))
  | _, _ => none
/-- The value of a call of a builtin function. -/
def aBuilt (P : Program) (ρ : Operand → Option AV) (b : Builtin) (args : List Operand) (ts : List TypeId) : Option AV :=
  match b with
  | .len => match args, ts with
    | [x], [t] => (ρ x).bind (aLen P t)
    | _, _ => none
  | .min => match args with
    | [x, y] => (match ρ x, ρ y with
      | some (.s x), some (.s y) => (aMin x y).map .s
      | _, _ => none)
    | _ => none
  | .max => match args with
    | [x, y] => (match ρ x, ρ y with
      | some (.s x), some (.s y) => (aMax x y).map .s
      | _, _ => none)
    | _ => none
  | _ => none
/-- The value of an operation that writes nothing and calls nothing. -/
def aVal (P : Program) (ρ : Operand → Option AV) (hp : List (Nat × Blk)) : Op → Option AV
  | .move x => ρ x
  | .assign x => ρ x
  | .pick c a b => match ρ c with
    | some (.s (.bool t)) => if t = true then ρ a else ρ b
    | _ => none
  | .load t x => (ρ x).bind (aLoad P t hp)
  | .fieldAddr t x f => (ρ x).bind (aFieldAt P t f)
  | .indexAddr t x i => (ρ x).bind fun x => (ρ i).bind (aIndexAt P t x)
  | .field t x f => (ρ x).bind (aField P t f)
  | .index t x i => (ρ x).bind fun x => (ρ i).bind (aIndex P t x)
  | .binOp op t x y _ => match ρ x, ρ y with
    | some (.s x), some (.s y) => (aBin P op t x y).map .s
    | _, _ => none
  | .unOp op _ x => match ρ x with
    | some (.s x) => (aUn op x).map .s
    | _ => none
  | .convert src dst x => match ρ x with
    | some (.s x) => (aConv P src dst x).map .s
    | _ => none
  | .extract x i => match ρ x with
    | some (.tup vs) => vs[i]?
    | _ => none
  | .makeFunc (.func f) first caps => match first.toList with
    | [] => (caps.toList.mapM ρ).map (.fn f)
    | _ => none
  | .call c => match c.callee with
    | .builtin b => aBuilt P ρ b c.args.toList c.argTypes.toList
    | _ => none
  | .nilCheck x => match ρ x with
    | some (.ptr b o) => some (.ptr b o)
    | some (.ip cs) => some (.ip cs)
    | some (.fn f cs) => some (.fn f cs)
    | _ => none
  | _ => none

section
variable {P : Program} {w w' : World} {S S' : Nat → Prop} {m m' : Nat → Nat × Nat} {nx : Nat}
theorem run_sizeT {t : TypeId} {k : Nat} (h : sizeT P t = some k) (w : World) : (sizeOf t).run P w = .ok k w := by
  unfold sizeT at h
  cases hi : P.info? t with
  | none => rw [hi] at h; cases h
  | some i => rw [hi] at h; injection h with h; simp [sizeOf, typeInfo, hi, h]
theorem run_isAggT {t : TypeId} {d : TypeDesc} (h : P.underlying t = some d) (w : World) : (isAgg t).run P w = .ok d.isRow w := by
  unfold isAgg
  rw [Sem.run_bind, run_underlying h w]
  cases d <;> rfl
theorem part_sound {t : TypeId} {cs : List AV} {vs : Array Value} {off : Nat} {x : AV} (hl : cs.length = vs.size) (h : ∀ (j : Nat) (a : AV) (b : Value), cs[j]? = some a → vs[j]? = some b → Rep w S m nx a b)
    (hp : aPart P t cs off = some x) : ∃ v, (part t vs off).run P w = .ok v w ∧ Rep w S m nx x v := by
  unfold aPart at hp
  cases hu : P.underlying t with
  | none => rw [hu] at hp; cases hp
  | some d =>
    rw [hu] at hp
    simp only at hp
    by_cases hd : d.isRow = true
    · rw [if_pos hd] at hp
      cases hk : sizeT P t with
      | none => rw [hk] at hp; cases hp
      | some k =>
        rw [hk] at hp
        simp only at hp
        split at hp
        · rename_i hle
          injection hp with hp; subst hp
          refine ⟨.agg (vs.extract off (off + k)), ?_, .agg _ (by simp; omega) fun j a b ha hb => ?_⟩
          · unfold part
            rw [Sem.run_bind, run_isAggT hu, hd]
            simp [run_sizeT hk]
          · rw [List.getElem?_take] at ha
            split at ha
            · rw [List.getElem?_drop] at ha
              rw [Array.getElem?_extract] at hb
              split at hb
              · exact h _ _ _ ha hb
              · cases hb
            · cases ha
        · cases hp
    · rw [if_neg hd] at hp
      have hlt : off < vs.size := by rw [← hl]; exact (List.getElem?_eq_some_iff.1 hp).1
      refine ⟨vs[off], ?_, h off x _ hp (Array.getElem?_eq_getElem hlt)⟩
      unfold part
      rw [Sem.run_bind, run_isAggT hu]
      simp [hd, hlt]
theorem load_cells {t : TypeId} {cs : List AV} {g o off : Nat} {x : AV} (h : ∀ (j : Nat) (a : AV), cs[j]? = some a → ∃ v, w.cell? ⟨g, o + j, none⟩ = some v ∧ Rep w S m nx a v)
    (hp : aPart P t cs off = some x) : ∃ v, (loadVar t ⟨g, o + off, none⟩).run P w = .ok v w ∧ Rep w S m nx x v := by
  unfold aPart at hp
  cases hu : P.underlying t with
  | none => rw [hu] at hp; cases hp
  | some d =>
    rw [hu] at hp
    simp only at hp
    by_cases hd : d.isRow = true
    · rw [if_pos hd] at hp
      cases hk : sizeT P t with
      | none => rw [hk] at hp; cases hp
      | some k =>
        rw [hk] at hp
        simp only at hp
        split at hp
        · rename_i hle
          injection hp with hp; subst hp
          let vs := (List.range k).map fun j => (w.cell? ⟨g, o + off + j, none⟩).getD undef
          have hvs : vs.length = k := by simp [vs]
          have hvj : ∀ j, j < k → vs[j]? = w.cell? ⟨g, o + off + j, none⟩ := fun j hj => by
            have hlt : off + j < cs.length := by omega
            obtain ⟨v, hv, _⟩ := h (off + j) _ (List.getElem?_eq_getElem hlt)
            rw [show o + (off + j) = o + off + j by omega] at hv
            simp [vs, hj, hv]
          have hr := run_loadVar_mid (P := P) w g (o + off) t vs d (fun j v hv => by
            have hj : j < k := by rw [← hvs]; exact (List.getElem?_eq_some_iff.1 hv).1
            rw [← hvj j hj]; exact hv) hu hd (by rw [hvs]; exact hk)
          refine ⟨_, hr, .agg _ (by simp [hvs]; omega) fun j a b ha hb => ?_⟩
          rw [List.getElem?_take] at ha
          split at ha
          · rename_i hj
            rw [List.getElem?_drop] at ha
            obtain ⟨v, hv, hr⟩ := h _ _ ha
            have hb' : vs[j]? = some b := by simpa using hb
            rw [hvj j hj, show o + off + j = o + (off + j) by omega, hv] at hb'
            injection hb' with hb'; subst hb'; exact hr
          · cases ha
        · cases hp
    · rw [if_neg hd] at hp
      obtain ⟨v, hv, hr⟩ := h off x hp
      refine ⟨v, ?_, hr⟩
      rw [loadVar, Sem.run_bind, run_isAggT hu]
      simp only [Result.andThen_ok, hd]
      simp [load, Sem.run, hv]
end
end Go.Proofs.Ytgggekjhfdkgkaa.Ab
