import Derived.Test.YtimgbjimonmkdaaXG06
set_option linter.unusedSimpArgs false
set_option linter.unusedVariables false
namespace Go.Am.F06
def xOf (e : Acc) : Int := if e.kind = 4 then IntKind.u64.wrap (e.new - e.old) else e.new
def badE (n : Nat) (es : List Acc) (e : Acc) : Prop := e.kind < 1 ∨ 4 < e.kind ∨ e.at' < 0 ∨ (n : Int) ≤ e.at' ∨ (cellsOf n es).getD e.at'.toNat 0 ≠ e.old ∨ (e.kind = 1 ∧ e.new ≠ e.old)
instance (n : Nat) (es : List Acc) (e : Acc) : Decidable (badE n es e) := by unfold badE; infer_instance
def redoL (n : Nat) : List Acc → List Acc → List Acc × Nat
  | es, [] => (es, 0)
  | es, e :: l => if badE n es e then (es, 0) else ((redoL n (stepL n es e.kind e.at' e.old (xOf e)) l).1, (redoL n (stepL n es e.kind e.at' e.old (xOf e)) l).2 + 1)
section
variable {X : Type}
def RrI (m0 : Mem X) (wr : Bool) (n : Nat) (es l : List Acc) (v lv : AV) (k : Nat) (e : List AV) (m : Mem X) : Prop := ∃ (i : Nat) (ei : List Acc) (vi y6 y7 y8 y9 y10 : AV),
  e = [.agg (bookC n v), lv, .ptr m0.length 0, .ptr (m0.length + 1) 0, .int .i64 0, .int .i64 i, y6, y7, y8, y9, y10] ∧ k = l.length - i ∧ i ≤ l.length ∧ Keep m0 m ∧ m[m0.length]? = some (.cells 2 false (bookC n vi)) ∧
    m[m0.length + 1]? = some (.cells 2 false [.int .i64 0, .nils]) ∧ SA m false ei vi ∧ Nc vi ∧ okE n ei ∧ ei.length ≤ es.length + i ∧ redoL n es l = ((redoL n ei (l.drop i)).1, i + (redoL n ei (l.drop i)).2)
end
end Go.Am.F06
