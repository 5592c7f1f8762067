import Derived.Test.YtimgbjimonmkdaaXQ10
import Derived.Test.YtimgbjimonmkdaaXP10
set_option linter.unusedSimpArgs false
set_option linter.unusedVariables false
namespace Go.Am.F10
variable {X : Type}
theorem done_eq {m : Mem X} {j : Nat} {c : Cf} {p a w seen tries : Int} {has : Bool} (hj : m[j]? = some (.cells 12 false (getC c p a w seen has tries))) : c_get_Get_Done [.ptr j 0] m = some (.bool (decide (a = 0)), m) := Fn_eq (done_run hj)
theorem got_eq {m : Mem X} {j : Nat} {c : Cf} {p a w seen tries : Int} {has : Bool} (hj : m[j]? = some (.cells 12 false (getC c p a w seen has tries))) : c_get_Get_Got [.ptr j 0] m = some (.tup [.int .i64 (if has then seen else 0), .bool has], m) := Fn_eq (got_run hj)
theorem tries_eq {m : Mem X} {j : Nat} {c : Cf} {p a w seen tries : Int} {has : Bool} (hj : m[j]? = some (.cells 12 false (getC c p a w seen has tries))) : c_get_Get_Tries [.ptr j 0] m = some (.int .i64 tries, m) := Fn_eq (tries_run hj)
theorem hands_eq {m : Mem X} {j : Nat} {c : Cf} {p a w seen tries : Int} (hj : m[j]? = some (.cells 12 false (getC c p a w seen false tries))) : c_get_Get_Hands [.ptr j 0] m = some (.nils, m) := Fn_eq (hands_no hj)
theorem pick_eq (m : Mem X) (i n : Int) (hn : 0 < n) (hn2 : n ≤ 100000) : c_kit_Pick [.int .i64 i, .int .i64 n] m = some (.int .i64 (i % n), m) := Fn_eq (pick_run i n hn hn2)
theorem cf_list {cs : List AV} (hl : cs.length = 6) {z0 z1 z2 z3 z4 z5 : Int} (h0 : cs[0]? = some (.int .i64 z0)) (h1 : cs[1]? = some (.int .i64 z1)) (h2 : cs[2]? = some (.int .i64 z2)) (h3 : cs[3]? = some (.int .i64 z3)) (h4 : cs[4]? = some (.int .i64 z4)) (h5 : cs[5]? = some (.int .i64 z5)) : cs = cfC ⟨z0, z1, z2, z3, z4, z5⟩ := by
  match cs, hl with
  | [x0, x1, x2, x3, x4, x5], _ =>
    simp only [List.getElem?_cons_zero, List.getElem?_cons_succ, Option.some.injEq] at h0 h1 h2 h3 h4 h5
    subst h0; subst h1; subst h2; subst h3; subst h4; subst h5; rfl
end Go.Am.F10
