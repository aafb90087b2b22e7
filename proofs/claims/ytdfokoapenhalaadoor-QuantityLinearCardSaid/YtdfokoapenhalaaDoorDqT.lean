/- The structs of the program as plain ones (printed by wip/dec.py). -/
import Derived.Test.YtdfokoapenhalaaDoorAbY
namespace Go.Proofs.YtdfokoapenhalaaDoor.Ab
open Go Go.RowKit Go.Shelf
structure D.Ratio where
  Num : Int
  Den : Int
deriving DecidableEq
def cs_Ratio (x : D.Ratio) : List AV := [I x.Num, I x.Den]
structure D.Unit where
  Name : ByteArray
  Kind : Int
  Base : Int
  Factor : D.Ratio
deriving DecidableEq
def cs_Unit (x : D.Unit) : List AV := ([Sr x.Name, I x.Kind, I x.Base] ++ (cs_Ratio x.Factor))
structure D.Amount where
  Unit : Int
  Value : D.Ratio
deriving DecidableEq
def cs_Amount (x : D.Amount) : List AV := ([I x.Unit] ++ (cs_Ratio x.Value))
theorem eql_Ratio (x y : D.Ratio) : EqOk Tryd.prog .eql 31 (.agg (cs_Ratio x)) (.agg (cs_Ratio y)) (decide (x = y)) := by
  intro w S m nx u v p q hu hv
  have e1 := rep_aggs [.int .i64 x.Num, .int .i64 x.Den] hu
  have e2 := rep_aggs [.int .i64 y.Num, .int .i64 y.Den] hv
  subst e1; subst e2; clear hu hv
  obtain ⟨p1, p2⟩ := x; obtain ⟨p3, p4⟩ := y
  go_simp
  by_cases h0 : p1 = p3 <;> by_cases h1 : p2 = p4 <;> simp [h0, h1]
theorem eql_Amount (x y : D.Amount) : EqOk Tryd.prog .eql 33 (.agg (cs_Amount x)) (.agg (cs_Amount y)) (decide (x = y)) := by
  intro w S m nx u v p q hu hv
  have e1 := rep_aggs [.int .i64 x.Unit, .int .i64 x.Value.Num, .int .i64 x.Value.Den] hu
  have e2 := rep_aggs [.int .i64 y.Unit, .int .i64 y.Value.Num, .int .i64 y.Value.Den] hv
  subst e1; subst e2; clear hu hv
  obtain ⟨p1, ⟨p2, p3⟩⟩ := x; obtain ⟨p4, ⟨p5, p6⟩⟩ := y
  go_simp
  by_cases h0 : p1 = p4 <;> by_cases h1 : p2 = p5 <;> by_cases h2 : p3 = p6 <;> simp [h0, h1, h2]
theorem neq_Ratio (x y : D.Ratio) : EqOk Tryd.prog .neq 31 (.agg (cs_Ratio x)) (.agg (cs_Ratio y)) (decide (x ≠ y)) := by
  intro w S m nx u v p q hu hv
  have e1 := rep_aggs [.int .i64 x.Num, .int .i64 x.Den] hu
  have e2 := rep_aggs [.int .i64 y.Num, .int .i64 y.Den] hv
  subst e1; subst e2; clear hu hv
  obtain ⟨p1, p2⟩ := x; obtain ⟨p3, p4⟩ := y
  go_simp
  by_cases h0 : p1 = p3 <;> by_cases h1 : p2 = p4 <;> simp [h0, h1]
theorem neq_Amount (x y : D.Amount) : EqOk Tryd.prog .neq 33 (.agg (cs_Amount x)) (.agg (cs_Amount y)) (decide (x ≠ y)) := by
  intro w S m nx u v p q hu hv
  have e1 := rep_aggs [.int .i64 x.Unit, .int .i64 x.Value.Num, .int .i64 x.Value.Den] hu
  have e2 := rep_aggs [.int .i64 y.Unit, .int .i64 y.Value.Num, .int .i64 y.Value.Den] hv
  subst e1; subst e2; clear hu hv
  obtain ⟨p1, ⟨p2, p3⟩⟩ := x; obtain ⟨p4, ⟨p5, p6⟩⟩ := y
  go_simp
  by_cases h0 : p1 = p4 <;> by_cases h1 : p2 = p5 <;> by_cases h2 : p3 = p6 <;> simp [h0, h1, h2]
end Go.Proofs.YtdfokoapenhalaaDoor.Ab
