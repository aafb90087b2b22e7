/- The structs of the program as plain ones (printed by wip/dec.py). -/
import Derived.Test.YtgggekjhfdkgkaaAbX
namespace Go.Proofs.Ytgggekjhfdkgkaa.Ab
open Go Go.RowKit Go.Shelf
structure D.Ratio where
  Num : Int
  Den : Int
deriving DecidableEq
def cs_Ratio (x : D.Ratio) : List AV := [I x.Num, I x.Den]
structure D.Debt where
  From : Int
  To : Int
  Amount : D.Ratio
deriving DecidableEq
def cs_Debt (x : D.Debt) : List AV := ([I x.From, I x.To] ++ (cs_Ratio x.Amount))
theorem eql_Ratio (x y : D.Ratio) : EqOk Try.prog .eql 34 (.agg (cs_Ratio x)) (.agg (cs_Ratio y)) (decide (x = y)) := by
  intro w S m nx u v p q hu hv
  have e1 := rep_aggs [.int .i64 x.Num, .int .i64 x.Den] hu
  have e2 := rep_aggs [.int .i64 y.Num, .int .i64 y.Den] hv
  subst e1; subst e2; clear hu hv
  obtain ⟨p1, p2⟩ := x; obtain ⟨p3, p4⟩ := y
  go_simp
  by_cases h0 : p1 = p3 <;> by_cases h1 : p2 = p4 <;> simp [h0, h1]
theorem neq_Ratio (x y : D.Ratio) : EqOk Try.prog .neq 34 (.agg (cs_Ratio x)) (.agg (cs_Ratio y)) (decide (x ≠ y)) := by
  intro w S m nx u v p q hu hv
  have e1 := rep_aggs [.int .i64 x.Num, .int .i64 x.Den] hu
  have e2 := rep_aggs [.int .i64 y.Num, .int .i64 y.Den] hv
  subst e1; subst e2; clear hu hv
  obtain ⟨p1, p2⟩ := x; obtain ⟨p3, p4⟩ := y
  go_simp
  by_cases h0 : p1 = p3 <;> by_cases h1 : p2 = p4 <;> simp [h0, h1]
theorem neq_Debt (x y : D.Debt) : EqOk Try.prog .neq 38 (.agg (cs_Debt x)) (.agg (cs_Debt y)) (decide (x ≠ y)) := by
  intro w S m nx u v p q hu hv
  have e1 := rep_aggs [.int .i64 x.From, .int .i64 x.To, .int .i64 x.Amount.Num, .int .i64 x.Amount.Den] hu
  have e2 := rep_aggs [.int .i64 y.From, .int .i64 y.To, .int .i64 y.Amount.Num, .int .i64 y.Amount.Den] hv
  subst e1; subst e2; clear hu hv
  obtain ⟨p1, p2, ⟨p3, p4⟩⟩ := x; obtain ⟨p5, p6, ⟨p7, p8⟩⟩ := y
  go_simp
  by_cases h0 : p1 = p5 <;> by_cases h1 : p2 = p6 <;> by_cases h2 : p3 = p7 <;> by_cases h3 : p4 = p8 <;> simp [h0, h1, h2, h3]
end Go.Proofs.Ytgggekjhfdkgkaa.Ab
