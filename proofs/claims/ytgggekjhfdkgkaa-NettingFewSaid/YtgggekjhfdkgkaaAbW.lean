/- The contracts of netting in one form. -/
import Derived.Test.YtgggekjhfdkgkaaAbH1
import Derived.Test.YtgggekjhfdkgkaaNetL1
namespace Go.Proofs.Ytgggekjhfdkgkaa.Ab
open Go Go.RowKit Go.Shelf
theorem spec_sub {P : Program} {f : FuncId} {args : List AV} {hp hp' : List (Nat × Blk)} {nx nx' : Nat} {r r' : AV} (h : Spec P f args hp nx r hp' nx') (hs : Sub r r') : Spec P f args hp nx r' hp' nx' :=
  ⟨h.1, fun w S m vs hm hr => (h.2 w S m vs hm hr).mono fun e w' ⟨v, S', m', h1, h2, h3⟩ => ⟨v, S', m', h1, h2, hs _ _ _ _ _ h3⟩⟩
theorem sub_tup2 {x x' y : AV} (h : Sub x x') : Sub (.tup [x, y]) (.tup [x', y]) := fun w S m nx v hr => by
  cases hr with
  | tup vs hl h2 =>
    obtain ⟨l⟩ := vs
    match l, hl with
    | [u, v], _ => exact rep_tup2 (h _ _ _ _ _ (h2 0 x u rfl rfl)) (h2 1 y v rfl rfl)
def outL {α : Type} (v : Bool) (o : Option (List α)) : List α := if v = true then o.getD [] else []
def codeL {α : Type} (v : Bool) (o : Option α) : Int := if v = true then (if o.isSome = true then 0 else 2) else 1
theorem resD_sub (v : Bool) (o : Option (List Nt.Debt)) : Sub (resD v o) (.tup [dsl (outL v o), .int (codeL v o)]) := by
  unfold resD outL codeL
  cases v
  · exact sub_tup2 (Sub.nil 4)
  · cases o with
    | none => exact sub_tup2 (Sub.nil 4)
    | some l => exact Sub.refl _
theorem resP_sub (v : Bool) (o : Option (List Rat)) : Sub (resP v o) (.tup [rsl (outL v o), .int (codeL v o)]) := by
  unfold resP outL codeL
  cases v
  · exact sub_tup2 (Sub.nil 2)
  · cases o with
    | none => exact sub_tup2 (Sub.nil 2)
    | some l => exact Sub.refl _
theorem netS (m : Int) (l : List Nt.Debt) (nx : Nat) (hl : l.length ≤ 1000000) (hn : i64s l) :
    Spec Try.prog 14 [.int m, dsl l] [] nx (.tup [dsl (outL (Nt.valid m l) (Nt.netO l m.toNat)), .int (codeL (Nt.valid m l) (Nt.netO l m.toNat))]) [] nx := spec_sub (net_spec m l nx hl hn) (resD_sub _ _)
theorem pairsS (m : Int) (l : List Nt.Debt) (nx : Nat) (hl : l.length ≤ 1000000) (hn : i64s l) :
    Spec Try.prog 12 [.int m, dsl l] [] nx (.tup [dsl (outL (Nt.valid m l) (Nt.pairsO l m.toNat)), .int (codeL (Nt.valid m l) (Nt.pairsO l m.toNat))]) [] nx := spec_sub (pairs_spec m l nx hl hn) (resD_sub _ _)
theorem posS (m : Int) (l : List Nt.Debt) (nx : Nat) (hl : l.length ≤ 1000000) (hn : i64s l) :
    Spec Try.prog 10 [.int m, dsl l] [] nx (.tup [rsl (outL (Nt.valid m l) (Nt.posL l m.toNat)), .int (codeL (Nt.valid m l) (Nt.posL l m.toNat))]) [] nx := spec_sub (positions_spec m l nx hl hn) (resP_sub _ _)
end Go.Proofs.Ytgggekjhfdkgkaa.Ab
