/- The abstract readings of the functions, printed by gen.py. -/
import Derived.Test.YtcalffadnfpknaaXAmDef
set_option linter.unusedSimpArgs false
set_option linter.unusedVariables false
namespace Go.Am.F03
set_option maxRecDepth 10000

/-- 77 -/
def law03_StrideGcd : AFn := { nloc := 6, npar := 1, res := [.loc 1], body :=
    (.seq
    (.region [
    ⟨.mov, [.c (.bool false)], some 1, none⟩])
    (.seq
    (.seq
    (.region [
    ⟨.mov, [.loc 0], none, none⟩,
    ⟨.len, [.tmp 0], none, none⟩,
    ⟨.bin .gtr, [.tmp 1, .c (.int .i64 6)], some 4, none⟩])
    (.cond (.loc 4)
      (.seq
      (.region [
    ⟨.call 74, [], none, none⟩,
    ⟨.mov, [.tmp 0], some 1, none⟩])
      .ret)
      .skip))
    (.seq
    (.region [
    ⟨.mov, [.c (.nils)], some 2, none⟩])
    (.seq
    (.seq
    (.region [
    ⟨.mov, [.c (.int .i64 0)], some 3, none⟩])
    (.block 0
    (.loop
    (.seq
    (.seq
    (.region [
    ⟨.mov, [.loc 3], none, none⟩,
    ⟨.mov, [.loc 0], none, none⟩,
    ⟨.len, [.tmp 1], none, none⟩,
    ⟨.bin .lss, [.tmp 0, .tmp 2], some 5, none⟩])
    (.cond (.loc 5)
      .skip
      (.exit 0)))
    (.seq
    (.block 1
    (.region [
    ⟨.mov, [.loc 2], none, none⟩,
    ⟨.mov, [.loc 0], none, none⟩,
    ⟨.mov, [.loc 3], none, none⟩,
    ⟨.iaddr 1 none, [.tmp 1, .tmp 2], none, none⟩,
    ⟨.load none, [.tmp 3], none, none⟩,
    ⟨.bin .rem, [.tmp 4, .c (.int .i64 10001)], none, none⟩,
    ⟨.lit 1 1 [.int .i64 0] [(0, 1)], [.tmp 5], none, none⟩,
    ⟨.append 1 8, [.tmp 0, .tmp 6], none, none⟩,
    ⟨.mov, [.tmp 7], some 2, none⟩]))
    (.region [
    ⟨.mov, [.loc 3], none, none⟩,
    ⟨.bin .add, [.tmp 0, .c (.int .i64 1)], none, none⟩,
    ⟨.mov, [.tmp 1], some 3, none⟩]))))))
    (.seq
    (.region [
    ⟨.mov, [.loc 2], none, none⟩,
    ⟨.call 75, [.tmp 0], none, none⟩,
    ⟨.mov, [.loc 2], none, none⟩,
    ⟨.call 76, [.tmp 2], none, none⟩,
    ⟨.bin .eql, [.tmp 1, .tmp 3], none, none⟩,
    ⟨.mov, [.tmp 4], none, none⟩,
    ⟨.call 74, [], none, some (5, true)⟩,
    ⟨.pick, [.tmp 5, .tmp 6, .c (.bool false)], none, none⟩,
    ⟨.mov, [.tmp 7], some 1, none⟩])
    .ret))))) }

/-- 86 -/
def law03_StrideOrders : AFn := { nloc := 21, npar := 3, res := [.loc 3], body :=
    (.seq
    (.region [
    ⟨.mov, [.c (.bool false)], some 3, none⟩])
    (.seq
    (.seq
    (.region [
    ⟨.mov, [.loc 2], none, none⟩,
    ⟨.len, [.tmp 0], none, none⟩,
    ⟨.bin .gtr, [.tmp 1, .c (.int .i64 60)], some 15, none⟩])
    (.cond (.loc 15)
      (.seq
      (.region [
    ⟨.call 74, [], none, none⟩,
    ⟨.mov, [.tmp 0], some 3, none⟩])
      .ret)
      .skip))
    (.seq
    (.region [
    ⟨.mov, [.c (.nils)], some 4, none⟩])
    (.seq
    (.region [
    ⟨.mov, [.loc 4], none, none⟩,
    ⟨.mov, [.loc 2], none, none⟩,
    ⟨.append 1 8, [.tmp 0, .tmp 1], none, none⟩,
    ⟨.mov, [.tmp 2], some 4, none⟩])
    (.seq
    (.region [
    ⟨.mov, [.loc 0], none, none⟩,
    ⟨.call 78, [.tmp 0], none, none⟩,
    ⟨.mov, [.loc 0], none, none⟩,
    ⟨.mov, [.loc 1], none, none⟩,
    ⟨.call 79, [.tmp 2, .tmp 3], none, none⟩,
    ⟨.mov, [.loc 0], none, none⟩,
    ⟨.mov, [.loc 1], none, none⟩,
    ⟨.mov, [.loc 4], none, none⟩,
    ⟨.call 80, [.tmp 5, .tmp 6, .tmp 7], none, none⟩,
    ⟨.mov, [.tmp 1], some 5, none⟩,
    ⟨.mov, [.tmp 4], some 6, none⟩,
    ⟨.mov, [.tmp 8], some 7, none⟩])
    (.seq
    (.seq
    (.region [
    ⟨.mov, [.c (.int .i64 0)], some 8, none⟩])
    (.block 0
    (.loop
    (.seq
    (.seq
    (.region [
    ⟨.mov, [.loc 8], none, none⟩,
    ⟨.bin .lss, [.tmp 0, .c (.int .i64 2)], some 16, none⟩])
    (.cond (.loc 16)
      .skip
      (.exit 0)))
    (.seq
    (.block 1
    (.seq
    (.region [
    ⟨.mov, [.loc 0], none, none⟩,
    ⟨.call 81, [.tmp 0], none, none⟩,
    ⟨.mov, [.loc 0], none, none⟩,
    ⟨.mov, [.loc 1], none, none⟩,
    ⟨.call 82, [.tmp 2, .tmp 3], none, none⟩,
    ⟨.mov, [.loc 0], none, none⟩,
    ⟨.mov, [.loc 1], none, none⟩,
    ⟨.mov, [.loc 2], none, none⟩,
    ⟨.call 83, [.tmp 5, .tmp 6, .tmp 7], none, none⟩,
    ⟨.mov, [.tmp 1], some 9, none⟩,
    ⟨.mov, [.tmp 4], some 10, none⟩,
    ⟨.mov, [.tmp 8], some 11, none⟩])
    (.seq
    (.seq
    (.region [
    ⟨.mov, [.loc 9], none, none⟩,
    ⟨.mov, [.loc 5], none, none⟩,
    ⟨.call 84, [.tmp 0, .tmp 1], none, none⟩,
    ⟨.not, [.tmp 2], none, none⟩,
    ⟨.mov, [.tmp 3], none, none⟩,
    ⟨.mov, [.loc 10], none, some (4, false)⟩,
    ⟨.mov, [.loc 6], none, some (4, false)⟩,
    ⟨.call 84, [.tmp 5, .tmp 6], none, some (4, false)⟩,
    ⟨.not, [.tmp 7], none, some (4, false)⟩,
    ⟨.pick, [.tmp 4, .c (.bool true), .tmp 8], none, none⟩,
    ⟨.mov, [.tmp 9], none, none⟩,
    ⟨.mov, [.loc 11], none, some (10, false)⟩,
    ⟨.mov, [.loc 7], none, some (10, false)⟩,
    ⟨.call 84, [.tmp 11, .tmp 12], none, some (10, false)⟩,
    ⟨.not, [.tmp 13], none, some (10, false)⟩,
    ⟨.pick, [.tmp 10, .c (.bool true), .tmp 14], some 17, none⟩])
    (.cond (.loc 17)
      (.seq
      (.region [
    ⟨.mov, [.c (.bool false)], some 3, none⟩])
      .ret)
      .skip))
    (.seq
    (.seq
    (.region [
    ⟨.mov, [.c (.int .i64 0)], some 12, none⟩])
    (.block 2
    (.loop
    (.seq
    (.seq
    (.region [
    ⟨.mov, [.loc 12], none, none⟩,
    ⟨.mov, [.loc 9], none, none⟩,
    ⟨.len, [.tmp 1], none, none⟩,
    ⟨.bin .lss, [.tmp 0, .tmp 2], some 18, none⟩])
    (.cond (.loc 18)
      .skip
      (.exit 2)))
    (.seq
    (.block 3
    (.region [
    ⟨.mov, [.loc 9], none, none⟩,
    ⟨.mov, [.loc 12], none, none⟩,
    ⟨.iaddr 1 none, [.tmp 0, .tmp 1], none, none⟩,
    ⟨.store 1, [.tmp 2, .c (.int .i64 77)], none, none⟩]))
    (.region [
    ⟨.mov, [.loc 12], none, none⟩,
    ⟨.bin .add, [.tmp 0, .c (.int .i64 1)], none, none⟩,
    ⟨.mov, [.tmp 1], some 12, none⟩]))))))
    (.seq
    (.seq
    (.region [
    ⟨.mov, [.c (.int .i64 0)], some 13, none⟩])
    (.block 4
    (.loop
    (.seq
    (.seq
    (.region [
    ⟨.mov, [.loc 13], none, none⟩,
    ⟨.mov, [.loc 10], none, none⟩,
    ⟨.len, [.tmp 1], none, none⟩,
    ⟨.bin .lss, [.tmp 0, .tmp 2], some 19, none⟩])
    (.cond (.loc 19)
      .skip
      (.exit 4)))
    (.seq
    (.block 5
    (.region [
    ⟨.mov, [.loc 10], none, none⟩,
    ⟨.mov, [.loc 13], none, none⟩,
    ⟨.iaddr 1 none, [.tmp 0, .tmp 1], none, none⟩,
    ⟨.store 1, [.tmp 2, .c (.int .i64 77)], none, none⟩]))
    (.region [
    ⟨.mov, [.loc 13], none, none⟩,
    ⟨.bin .add, [.tmp 0, .c (.int .i64 1)], none, none⟩,
    ⟨.mov, [.tmp 1], some 13, none⟩]))))))
    (.seq
    (.region [
    ⟨.mov, [.c (.int .i64 0)], some 14, none⟩])
    (.block 6
    (.loop
    (.seq
    (.seq
    (.region [
    ⟨.mov, [.loc 14], none, none⟩,
    ⟨.mov, [.loc 11], none, none⟩,
    ⟨.len, [.tmp 1], none, none⟩,
    ⟨.bin .lss, [.tmp 0, .tmp 2], some 20, none⟩])
    (.cond (.loc 20)
      .skip
      (.exit 6)))
    (.seq
    (.block 7
    (.region [
    ⟨.mov, [.loc 11], none, none⟩,
    ⟨.mov, [.loc 14], none, none⟩,
    ⟨.iaddr 1 none, [.tmp 0, .tmp 1], none, none⟩,
    ⟨.store 1, [.tmp 2, .c (.int .i64 77)], none, none⟩]))
    (.region [
    ⟨.mov, [.loc 14], none, none⟩,
    ⟨.bin .add, [.tmp 0, .c (.int .i64 1)], none, none⟩,
    ⟨.mov, [.tmp 1], some 14, none⟩])))))))))))
    (.region [
    ⟨.mov, [.loc 8], none, none⟩,
    ⟨.bin .add, [.tmp 0, .c (.int .i64 1)], none, none⟩,
    ⟨.mov, [.tmp 1], some 8, none⟩]))))))
    (.seq
    (.region [
    ⟨.mov, [.loc 0], none, none⟩,
    ⟨.call 85, [.tmp 0], none, none⟩,
    ⟨.mov, [.loc 6], none, none⟩,
    ⟨.len, [.tmp 2], none, none⟩,
    ⟨.mov, [.loc 5], none, none⟩,
    ⟨.len, [.tmp 4], none, none⟩,
    ⟨.bin .mul, [.tmp 3, .tmp 5], none, none⟩,
    ⟨.bin .eql, [.tmp 1, .tmp 6], none, none⟩,
    ⟨.mov, [.tmp 7], none, none⟩,
    ⟨.mov, [.loc 4], none, some (8, true)⟩,
    ⟨.mov, [.loc 2], none, some (8, true)⟩,
    ⟨.call 84, [.tmp 9, .tmp 10], none, some (8, true)⟩,
    ⟨.pick, [.tmp 8, .tmp 11, .c (.bool false)], none, none⟩,
    ⟨.mov, [.tmp 12], none, none⟩,
    ⟨.call 74, [], none, some (13, true)⟩,
    ⟨.pick, [.tmp 13, .tmp 14, .c (.bool false)], none, none⟩,
    ⟨.mov, [.tmp 15], some 3, none⟩])
    .ret))))))) }

/-- 90 -/
def law03_StrideOnce : AFn := { nloc := 27, npar := 4, res := [.loc 4], body :=
    (.seq
    (.region [
    ⟨.mov, [.c (.bool false)], some 4, none⟩])
    (.seq
    (.region [
    ⟨.mov, [.loc 0], none, none⟩,
    ⟨.call 87, [.tmp 0, .c (.int .i64 64)], none, none⟩,
    ⟨.bin .add, [.c (.int .i64 1), .tmp 1], none, none⟩,
    ⟨.mov, [.tmp 2], some 0, none⟩])
    (.seq
    (.region [
    ⟨.mov, [.loc 1], none, none⟩,
    ⟨.call 87, [.tmp 0, .c (.int .i64 1000000000)], none, none⟩,
    ⟨.mov, [.tmp 1], some 1, none⟩])
    (.seq
    (.region [
    ⟨.mov, [.loc 0], none, none⟩,
    ⟨.mov, [.loc 1], none, none⟩,
    ⟨.call 82, [.tmp 0, .tmp 1], none, none⟩,
    ⟨.mov, [.tmp 2], some 5, none⟩])
    (.seq
    (.region [
    ⟨.mov, [.loc 0], none, none⟩,
    ⟨.call 85, [.tmp 0], none, none⟩,
    ⟨.mov, [.tmp 1], some 6, none⟩])
    (.seq
    (.seq
    (.region [
    ⟨.mov, [.loc 5], none, none⟩,
    ⟨.len, [.tmp 0], none, none⟩,
    ⟨.mov, [.loc 0], none, none⟩,
    ⟨.bin .neq, [.tmp 1, .tmp 2], none, none⟩,
    ⟨.mov, [.tmp 3], none, none⟩,
    ⟨.mov, [.loc 6], none, some (4, false)⟩,
    ⟨.mov, [.loc 0], none, some (4, false)⟩,
    ⟨.bin .lss, [.tmp 5, .tmp 6], none, some (4, false)⟩,
    ⟨.pick, [.tmp 4, .c (.bool true), .tmp 7], none, none⟩,
    ⟨.mov, [.tmp 8], none, none⟩,
    ⟨.mov, [.loc 0], none, some (9, false)⟩,
    ⟨.mov, [.loc 1], none, some (9, false)⟩,
    ⟨.mov, [.loc 6], none, some (9, false)⟩,
    ⟨.bin .add, [.tmp 11, .tmp 12], none, some (9, false)⟩,
    ⟨.call 82, [.tmp 10, .tmp 13], none, some (9, false)⟩,
    ⟨.mov, [.loc 5], none, some (9, false)⟩,
    ⟨.call 84, [.tmp 14, .tmp 15], none, some (9, false)⟩,
    ⟨.not, [.tmp 16], none, some (9, false)⟩,
    ⟨.pick, [.tmp 9, .c (.bool true), .tmp 17], none, none⟩,
    ⟨.mov, [.tmp 18], none, none⟩,
    ⟨.mov, [.loc 0], none, some (19, false)⟩,
    ⟨.mov, [.loc 1], none, some (19, false)⟩,
    ⟨.mov, [.loc 6], none, some (19, false)⟩,
    ⟨.bin .sub, [.tmp 21, .tmp 22], none, some (19, false)⟩,
    ⟨.call 82, [.tmp 20, .tmp 23], none, some (19, false)⟩,
    ⟨.mov, [.loc 5], none, some (19, false)⟩,
    ⟨.call 84, [.tmp 24, .tmp 25], none, some (19, false)⟩,
    ⟨.not, [.tmp 26], none, some (19, false)⟩,
    ⟨.pick, [.tmp 19, .c (.bool true), .tmp 27], some 17, none⟩])
    (.cond (.loc 17)
      (.seq
      (.region [
    ⟨.mov, [.c (.bool false)], some 4, none⟩])
      .ret)
      .skip))
    (.seq
    (.region [
    ⟨.mov, [.loc 0], none, none⟩,
    ⟨.make 1 1 [.bool false], [.tmp 0, .tmp 0], none, none⟩,
    ⟨.mov, [.tmp 1], some 7, none⟩])
    (.seq
    (.seq
    (.region [
    ⟨.mov, [.c (.int .i64 0)], some 8, none⟩])
    (.block 0
    (.loop
    (.seq
    (.seq
    (.region [
    ⟨.mov, [.loc 8], none, none⟩,
    ⟨.mov, [.loc 0], none, none⟩,
    ⟨.bin .lss, [.tmp 0, .tmp 1], some 18, none⟩])
    (.cond (.loc 18)
      .skip
      (.exit 0)))
    (.seq
    (.block 1
    (.seq
    (.seq
    (.region [
    ⟨.mov, [.loc 5], none, none⟩,
    ⟨.mov, [.loc 8], none, none⟩,
    ⟨.iaddr 1 none, [.tmp 0, .tmp 1], none, none⟩,
    ⟨.load none, [.tmp 2], none, none⟩,
    ⟨.bin .lss, [.tmp 3, .c (.int .i64 0)], none, none⟩,
    ⟨.mov, [.tmp 4], none, none⟩,
    ⟨.mov, [.loc 5], none, some (5, false)⟩,
    ⟨.mov, [.loc 8], none, some (5, false)⟩,
    ⟨.iaddr 1 none, [.tmp 6, .tmp 7], none, some (5, false)⟩,
    ⟨.load none, [.tmp 8], none, some (5, false)⟩,
    ⟨.mov, [.loc 0], none, some (5, false)⟩,
    ⟨.bin .geq, [.tmp 9, .tmp 10], none, some (5, false)⟩,
    ⟨.pick, [.tmp 5, .c (.bool true), .tmp 11], none, none⟩,
    ⟨.mov, [.tmp 12], none, none⟩,
    ⟨.mov, [.loc 7], none, some (13, false)⟩,
    ⟨.mov, [.loc 5], none, some (13, false)⟩,
    ⟨.mov, [.loc 8], none, some (13, false)⟩,
    ⟨.iaddr 1 none, [.tmp 15, .tmp 16], none, some (13, false)⟩,
    ⟨.load none, [.tmp 17], none, some (13, false)⟩,
    ⟨.iaddr 1 none, [.tmp 14, .tmp 18], none, some (13, false)⟩,
    ⟨.load none, [.tmp 19], none, some (13, false)⟩,
    ⟨.pick, [.tmp 13, .c (.bool true), .tmp 20], some 19, none⟩])
    (.cond (.loc 19)
      (.seq
      (.region [
    ⟨.mov, [.c (.bool false)], some 4, none⟩])
      .ret)
      .skip))
    (.region [
    ⟨.mov, [.loc 7], none, none⟩,
    ⟨.mov, [.loc 5], none, none⟩,
    ⟨.mov, [.loc 8], none, none⟩,
    ⟨.iaddr 1 none, [.tmp 1, .tmp 2], none, none⟩,
    ⟨.load none, [.tmp 3], none, none⟩,
    ⟨.iaddr 1 none, [.tmp 0, .tmp 4], none, none⟩,
    ⟨.store 1, [.tmp 5, .c (.bool true)], none, none⟩])))
    (.region [
    ⟨.mov, [.loc 8], none, none⟩,
    ⟨.bin .add, [.tmp 0, .c (.int .i64 1)], none, none⟩,
    ⟨.mov, [.tmp 1], some 8, none⟩]))))))
    (.seq
    (.region [
    ⟨.mov, [.c (.int .i64 1)], some 9, none⟩])
    (.seq
    (.seq
    (.region [
    ⟨.mov, [.loc 0], none, none⟩,
    ⟨.bin .gtr, [.tmp 0, .c (.int .i64 1)], some 20, none⟩])
    (.cond (.loc 20)
      (.region [
    ⟨.mov, [.loc 5], none, none⟩,
    ⟨.iaddr 1 none, [.tmp 0, .c (.int .i64 1)], none, none⟩,
    ⟨.load none, [.tmp 1], none, none⟩,
    ⟨.mov, [.loc 5], none, none⟩,
    ⟨.iaddr 1 none, [.tmp 3, .c (.int .i64 0)], none, none⟩,
    ⟨.load none, [.tmp 4], none, none⟩,
    ⟨.bin .sub, [.tmp 2, .tmp 5], none, none⟩,
    ⟨.mov, [.loc 0], none, none⟩,
    ⟨.bin .add, [.tmp 6, .tmp 7], none, none⟩,
    ⟨.mov, [.loc 0], none, none⟩,
    ⟨.bin .rem, [.tmp 8, .tmp 9], none, none⟩,
    ⟨.mov, [.tmp 10], some 9, none⟩])
      .skip))
    (.seq
    (.seq
    (.region [
    ⟨.mov, [.c (.int .i64 0)], some 10, none⟩])
    (.block 2
    (.loop
    (.seq
    (.seq
    (.region [
    ⟨.mov, [.loc 10], none, none⟩,
    ⟨.mov, [.loc 0], none, none⟩,
    ⟨.bin .lss, [.tmp 0, .tmp 1], some 21, none⟩])
    (.cond (.loc 21)
      .skip
      (.exit 2)))
    (.seq
    (.block 3
    (.seq
    (.region [
    ⟨.mov, [.loc 5], none, none⟩,
    ⟨.mov, [.loc 10], none, none⟩,
    ⟨.bin .add, [.tmp 1, .c (.int .i64 1)], none, none⟩,
    ⟨.mov, [.loc 0], none, none⟩,
    ⟨.bin .rem, [.tmp 2, .tmp 3], none, none⟩,
    ⟨.iaddr 1 none, [.tmp 0, .tmp 4], none, none⟩,
    ⟨.load none, [.tmp 5], none, none⟩,
    ⟨.mov, [.loc 5], none, none⟩,
    ⟨.mov, [.loc 10], none, none⟩,
    ⟨.iaddr 1 none, [.tmp 7, .tmp 8], none, none⟩,
    ⟨.load none, [.tmp 9], none, none⟩,
    ⟨.bin .sub, [.tmp 6, .tmp 10], none, none⟩,
    ⟨.mov, [.loc 0], none, none⟩,
    ⟨.bin .add, [.tmp 11, .tmp 12], none, none⟩,
    ⟨.mov, [.loc 0], none, none⟩,
    ⟨.bin .rem, [.tmp 13, .tmp 14], none, none⟩,
    ⟨.mov, [.loc 9], none, none⟩,
    ⟨.mov, [.loc 0], none, none⟩,
    ⟨.bin .rem, [.tmp 16, .tmp 17], none, none⟩,
    ⟨.bin .neq, [.tmp 15, .tmp 18], some 22, none⟩])
    (.cond (.loc 22)
      (.seq
      (.region [
    ⟨.mov, [.c (.bool false)], some 4, none⟩])
      .ret)
      .skip)))
    (.region [
    ⟨.mov, [.loc 10], none, none⟩,
    ⟨.bin .add, [.tmp 0, .c (.int .i64 1)], none, none⟩,
    ⟨.mov, [.tmp 1], some 10, none⟩]))))))
    (.seq
    (.region [
    ⟨.mov, [.loc 0], none, none⟩,
    ⟨.mov, [.loc 5], none, none⟩,
    ⟨.iaddr 1 none, [.tmp 1, .c (.int .i64 0)], none, none⟩,
    ⟨.load none, [.tmp 2], none, none⟩,
    ⟨.mov, [.loc 9], none, none⟩,
    ⟨.call 88, [.tmp 0, .tmp 3, .tmp 4], none, none⟩,
    ⟨.mov, [.tmp 5], none, none⟩,
    ⟨.extract 0, [.tmp 6], none, none⟩,
    ⟨.extract 1, [.tmp 6], none, none⟩,
    ⟨.mov, [.tmp 7], some 11, none⟩,
    ⟨.mov, [.tmp 8], some 12, none⟩])
    (.seq
    (.seq
    (.region [
    ⟨.mov, [.loc 12], none, none⟩,
    ⟨.not, [.tmp 0], none, none⟩,
    ⟨.mov, [.tmp 1], none, none⟩,
    ⟨.mov, [.loc 11], none, some (2, false)⟩,
    ⟨.mov, [.loc 1], none, some (2, false)⟩,
    ⟨.mov, [.loc 6], none, some (2, false)⟩,
    ⟨.bin .rem, [.tmp 4, .tmp 5], none, some (2, false)⟩,
    ⟨.bin .neq, [.tmp 3, .tmp 6], none, some (2, false)⟩,
    ⟨.pick, [.tmp 2, .c (.bool true), .tmp 7], some 23, none⟩])
    (.cond (.loc 23)
      (.seq
      (.region [
    ⟨.mov, [.c (.bool false)], some 4, none⟩])
      .ret)
      .skip))
    (.seq
    (.region [
    ⟨.mov, [.loc 0], none, none⟩,
    ⟨.mov, [.loc 2], none, none⟩,
    ⟨.mov, [.loc 3], none, none⟩,
    ⟨.call 88, [.tmp 0, .tmp 1, .tmp 2], none, none⟩,
    ⟨.mov, [.tmp 3], none, none⟩,
    ⟨.extract 0, [.tmp 4], none, none⟩,
    ⟨.extract 1, [.tmp 4], none, none⟩,
    ⟨.mov, [.tmp 5], some 13, none⟩,
    ⟨.mov, [.tmp 6], some 14, none⟩])
    (.seq
    (.region [
    ⟨.mov, [.loc 2], none, none⟩,
    ⟨.bin .geq, [.tmp 0, .c (.int .i64 0)], none, none⟩,
    ⟨.mov, [.tmp 1], none, none⟩,
    ⟨.mov, [.loc 2], none, some (2, true)⟩,
    ⟨.mov, [.loc 0], none, some (2, true)⟩,
    ⟨.bin .lss, [.tmp 3, .tmp 4], none, some (2, true)⟩,
    ⟨.pick, [.tmp 2, .tmp 5, .c (.bool false)], none, none⟩,
    ⟨.mov, [.tmp 6], none, none⟩,
    ⟨.mov, [.loc 3], none, some (7, true)⟩,
    ⟨.bin .geq, [.tmp 8, .c (.int .i64 1)], none, some (7, true)⟩,
    ⟨.pick, [.tmp 7, .tmp 9, .c (.bool false)], none, none⟩,
    ⟨.mov, [.tmp 10], none, none⟩,
    ⟨.mov, [.loc 3], none, some (11, true)⟩,
    ⟨.mov, [.loc 0], none, some (11, true)⟩,
    ⟨.bin .leq, [.tmp 12, .tmp 13], none, some (11, true)⟩,
    ⟨.pick, [.tmp 11, .tmp 14, .c (.bool false)], none, none⟩,
    ⟨.mov, [.tmp 15], none, none⟩,
    ⟨.mov, [.loc 3], none, some (16, true)⟩,
    ⟨.min, [.tmp 17, .c (.int .i64 64)], none, some (16, true)⟩,
    ⟨.max, [.c (.int .i64 1), .tmp 18], none, some (16, true)⟩,
    ⟨.mov, [.loc 0], none, some (16, true)⟩,
    ⟨.call 89, [.tmp 19, .tmp 20], none, some (16, true)⟩,
    ⟨.bin .eql, [.tmp 21, .c (.int .i64 1)], none, some (16, true)⟩,
    ⟨.pick, [.tmp 16, .tmp 22, .c (.bool false)], none, none⟩,
    ⟨.mov, [.tmp 23], some 15, none⟩])
    (.seq
    (.seq
    (.region [
    ⟨.mov, [.loc 14], none, none⟩,
    ⟨.mov, [.loc 15], none, none⟩,
    ⟨.eqv .bool true, [.tmp 0, .tmp 1], none, none⟩,
    ⟨.mov, [.tmp 2], none, none⟩,
    ⟨.mov, [.loc 14], none, some (3, false)⟩,
    ⟨.not, [.tmp 4], none, some (3, false)⟩,
    ⟨.mov, [.tmp 5], none, some (3, false)⟩,
    ⟨.mov, [.loc 13], none, some (6, true)⟩,
    ⟨.bin .neq, [.tmp 7, .c (.int .i64 0)], none, some (6, true)⟩,
    ⟨.pick, [.tmp 6, .tmp 8, .c (.bool false)], none, some (3, false)⟩,
    ⟨.pick, [.tmp 3, .c (.bool true), .tmp 9], some 24, none⟩])
    (.cond (.loc 24)
      (.seq
      (.region [
    ⟨.mov, [.c (.bool false)], some 4, none⟩])
      .ret)
      .skip))
    (.seq
    (.seq
    (.region [
    ⟨.mov, [.loc 14], some 25, none⟩])
    (.cond (.loc 25)
      (.seq
      (.region [
    ⟨.mov, [.loc 0], none, none⟩,
    ⟨.mov, [.loc 13], none, none⟩,
    ⟨.call 82, [.tmp 0, .tmp 1], none, none⟩,
    ⟨.mov, [.tmp 2], some 16, none⟩])
      (.seq
      (.region [
    ⟨.mov, [.loc 16], none, none⟩,
    ⟨.len, [.tmp 0], none, none⟩,
    ⟨.mov, [.loc 0], none, none⟩,
    ⟨.bin .neq, [.tmp 1, .tmp 2], none, none⟩,
    ⟨.mov, [.tmp 3], none, none⟩,
    ⟨.mov, [.loc 16], none, some (4, false)⟩,
    ⟨.iaddr 1 none, [.tmp 5, .c (.int .i64 0)], none, some (4, false)⟩,
    ⟨.load none, [.tmp 6], none, some (4, false)⟩,
    ⟨.mov, [.loc 2], none, some (4, false)⟩,
    ⟨.bin .neq, [.tmp 7, .tmp 8], none, some (4, false)⟩,
    ⟨.pick, [.tmp 4, .c (.bool true), .tmp 9], none, none⟩,
    ⟨.mov, [.tmp 10], none, none⟩,
    ⟨.mov, [.loc 0], none, some (11, false)⟩,
    ⟨.bin .gtr, [.tmp 12, .c (.int .i64 1)], none, some (11, false)⟩,
    ⟨.mov, [.tmp 13], none, some (11, false)⟩,
    ⟨.mov, [.loc 16], none, some (14, true)⟩,
    ⟨.iaddr 1 none, [.tmp 15, .c (.int .i64 1)], none, some (14, true)⟩,
    ⟨.load none, [.tmp 16], none, some (14, true)⟩,
    ⟨.mov, [.loc 2], none, some (14, true)⟩,
    ⟨.mov, [.loc 3], none, some (14, true)⟩,
    ⟨.bin .add, [.tmp 18, .tmp 19], none, some (14, true)⟩,
    ⟨.mov, [.loc 0], none, some (14, true)⟩,
    ⟨.bin .rem, [.tmp 20, .tmp 21], none, some (14, true)⟩,
    ⟨.bin .neq, [.tmp 17, .tmp 22], none, some (14, true)⟩,
    ⟨.pick, [.tmp 14, .tmp 23, .c (.bool false)], none, some (11, false)⟩,
    ⟨.pick, [.tmp 11, .c (.bool true), .tmp 24], none, none⟩,
    ⟨.mov, [.tmp 25], none, none⟩,
    ⟨.mov, [.loc 13], none, some (26, false)⟩,
    ⟨.bin .lss, [.tmp 27, .c (.int .i64 0)], none, some (26, false)⟩,
    ⟨.pick, [.tmp 26, .c (.bool true), .tmp 28], none, none⟩,
    ⟨.mov, [.tmp 29], none, none⟩,
    ⟨.mov, [.loc 13], none, some (30, false)⟩,
    ⟨.mov, [.loc 6], none, some (30, false)⟩,
    ⟨.bin .geq, [.tmp 31, .tmp 32], none, some (30, false)⟩,
    ⟨.pick, [.tmp 30, .c (.bool true), .tmp 33], some 26, none⟩])
      (.cond (.loc 26)
        (.seq
        (.region [
    ⟨.mov, [.c (.bool false)], some 4, none⟩])
        .ret)
        .skip)))
      .skip))
    (.seq
    (.region [
    ⟨.call 74, [], none, none⟩,
    ⟨.mov, [.tmp 0], some 4, none⟩])
    .ret)))))))))))))))))) }

/-- 91 -/
def law03_StrideKnown : AFn := { nloc := 8, npar := 0, res := [.loc 0], body :=
    (.seq
    (.region [
    ⟨.mov, [.c (.bool false)], some 0, none⟩])
    (.seq
    (.seq
    (.region [
    ⟨.mov, [.c (.int .i64 (-2))], some 1, none⟩])
    (.block 0
    (.loop
    (.seq
    (.seq
    (.region [
    ⟨.mov, [.loc 1], none, none⟩,
    ⟨.bin .lss, [.tmp 0, .c (.int .i64 68)], some 5, none⟩])
    (.cond (.loc 5)
      .skip
      (.exit 0)))
    (.seq
    (.block 1
    (.seq
    (.region [
    ⟨.mov, [.c (.int .i64 0)], some 2, none⟩])
    (.block 2
    (.loop
    (.seq
    (.seq
    (.region [
    ⟨.mov, [.loc 2], none, none⟩,
    ⟨.bin .lss, [.tmp 0, .c (.int .i64 12)], some 6, none⟩])
    (.cond (.loc 6)
      .skip
      (.exit 2)))
    (.seq
    (.block 3
    (.seq
    (.region [
    ⟨.mov, [.loc 1], none, none⟩,
    ⟨.mov, [.loc 2], none, none⟩,
    ⟨.bin .mul, [.tmp 1, .c (.int .i64 37)], none, none⟩,
    ⟨.bin .sub, [.tmp 2, .c (.int .i64 80)], none, none⟩,
    ⟨.mov, [.loc 2], none, none⟩,
    ⟨.mov, [.loc 2], none, none⟩,
    ⟨.bin .mul, [.c (.int .i64 2), .tmp 5], none, none⟩,
    ⟨.lit 3 1 [.int .i64 0] [(0, 1), (1, 1), (2, 1)], [.tmp 4, .tmp 6, .c (.int .i64 (-1))], none, none⟩,
    ⟨.call 86, [.tmp 0, .tmp 3, .tmp 7], none, none⟩,
    ⟨.not, [.tmp 8], none, none⟩,
    ⟨.mov, [.tmp 9], none, none⟩,
    ⟨.mov, [.loc 1], none, some (10, false)⟩,
    ⟨.mov, [.loc 2], none, some (10, false)⟩,
    ⟨.bin .mul, [.tmp 12, .c (.int .i64 53)], none, some (10, false)⟩,
    ⟨.mov, [.loc 2], none, some (10, false)⟩,
    ⟨.mov, [.loc 2], none, some (10, false)⟩,
    ⟨.bin .mul, [.tmp 15, .c (.int .i64 7)], none, some (10, false)⟩,
    ⟨.bin .rem, [.tmp 16, .c (.int .i64 9)], none, some (10, false)⟩,
    ⟨.bin .add, [.c (.int .i64 1), .tmp 17], none, some (10, false)⟩,
    ⟨.call 90, [.tmp 11, .tmp 13, .tmp 14, .tmp 18], none, some (10, false)⟩,
    ⟨.not, [.tmp 19], none, some (10, false)⟩,
    ⟨.pick, [.tmp 10, .c (.bool true), .tmp 20], some 7, none⟩])
    (.cond (.loc 7)
      (.seq
      (.region [
    ⟨.mov, [.c (.bool false)], some 0, none⟩])
      .ret)
      .skip)))
    (.region [
    ⟨.mov, [.loc 2], none, none⟩,
    ⟨.bin .add, [.tmp 0, .c (.int .i64 1)], none, none⟩,
    ⟨.mov, [.tmp 1], some 2, none⟩])))))))
    (.region [
    ⟨.mov, [.loc 1], none, none⟩,
    ⟨.bin .add, [.tmp 0, .c (.int .i64 1)], none, none⟩,
    ⟨.mov, [.tmp 1], some 1, none⟩]))))))
    (.seq
    (.region [
    ⟨.call 88, [.c (.int .i64 65), .c (.int .i64 0), .c (.int .i64 1)], none, none⟩,
    ⟨.mov, [.tmp 0], none, none⟩,
    ⟨.extract 0, [.tmp 1], none, none⟩,
    ⟨.extract 1, [.tmp 1], none, none⟩,
    ⟨.mov, [.tmp 2], some 3, none⟩,
    ⟨.mov, [.tmp 3], some 4, none⟩])
    (.seq
    (.region [
    ⟨.mov, [.loc 3], none, none⟩,
    ⟨.bin .eql, [.tmp 0, .c (.int .i64 0)], none, none⟩,
    ⟨.mov, [.tmp 1], none, none⟩,
    ⟨.mov, [.loc 4], none, some (2, true)⟩,
    ⟨.not, [.tmp 3], none, some (2, true)⟩,
    ⟨.pick, [.tmp 2, .tmp 4, .c (.bool false)], none, none⟩,
    ⟨.mov, [.tmp 5], none, none⟩,
    ⟨.call 85, [.c (.int .i64 0)], none, some (6, true)⟩,
    ⟨.bin .eql, [.tmp 7, .c (.int .i64 0)], none, some (6, true)⟩,
    ⟨.pick, [.tmp 6, .tmp 8, .c (.bool false)], none, none⟩,
    ⟨.mov, [.tmp 9], none, none⟩,
    ⟨.call 85, [.c (.int .i64 65)], none, some (10, true)⟩,
    ⟨.bin .eql, [.tmp 11, .c (.int .i64 0)], none, some (10, true)⟩,
    ⟨.pick, [.tmp 10, .tmp 12, .c (.bool false)], none, none⟩,
    ⟨.mov, [.tmp 13], none, none⟩,
    ⟨.call 77, [.c (.nils)], none, some (14, true)⟩,
    ⟨.pick, [.tmp 14, .tmp 15, .c (.bool false)], none, none⟩,
    ⟨.mov, [.tmp 16], none, none⟩,
    ⟨.lit 2 1 [.int .i64 0] [(0, 1), (1, 1)], [.c (.int .i64 0), .c (.int .i64 0)], none, some (17, true)⟩,
    ⟨.call 77, [.tmp 18], none, some (17, true)⟩,
    ⟨.pick, [.tmp 17, .tmp 19, .c (.bool false)], none, none⟩,
    ⟨.mov, [.tmp 20], none, none⟩,
    ⟨.lit 4 1 [.int .i64 0] [(0, 1), (1, 1), (2, 1), (3, 1)], [.c (.int .i64 0), .c (.int .i64 (-12)), .c (.int .i64 18), .c (.int .i64 0)], none, some (21, true)⟩,
    ⟨.call 77, [.tmp 22], none, some (21, true)⟩,
    ⟨.pick, [.tmp 21, .tmp 23, .c (.bool false)], none, none⟩,
    ⟨.mov, [.tmp 24], none, none⟩,
    ⟨.lit 2 1 [.int .i64 0] [(0, 1), (1, 1)], [.c (.int .i64 10000), .c (.int .i64 7500)], none, some (25, true)⟩,
    ⟨.call 77, [.tmp 26], none, some (25, true)⟩,
    ⟨.pick, [.tmp 25, .tmp 27, .c (.bool false)], none, none⟩,
    ⟨.mov, [.tmp 28], none, none⟩,
    ⟨.call 86, [.c (.int .i64 64), .c (.int .i64 (-9223372036854775808)), .c (.nils)], none, some (29, true)⟩,
    ⟨.pick, [.tmp 29, .tmp 30, .c (.bool false)], none, none⟩,
    ⟨.mov, [.tmp 31], none, none⟩,
    ⟨.call 86, [.c (.int .i64 7), .c (.int .i64 9223372036854775807), .c (.nils)], none, some (32, true)⟩,
    ⟨.pick, [.tmp 32, .tmp 33, .c (.bool false)], none, none⟩,
    ⟨.mov, [.tmp 34], none, none⟩,
    ⟨.call 74, [], none, some (35, true)⟩,
    ⟨.pick, [.tmp 35, .tmp 36, .c (.bool false)], none, none⟩,
    ⟨.mov, [.tmp 37], some 0, none⟩])
    .ret)))) }

/-- 74 -/
def law03_works : AFn := { nloc := 3, npar := 0, res := [.loc 0], body :=
    (.seq
    (.region [
    ⟨.mov, [.c (.bool false)], some 0, none⟩])
    (.seq
    (.region [
    ⟨.call 88, [.c (.int .i64 6), .c (.int .i64 2), .c (.int .i64 5)], none, none⟩,
    ⟨.mov, [.tmp 0], none, none⟩,
    ⟨.extract 0, [.tmp 1], none, none⟩,
    ⟨.extract 1, [.tmp 1], none, none⟩,
    ⟨.mov, [.tmp 2], some 1, none⟩,
    ⟨.mov, [.tmp 3], some 2, none⟩])
    (.seq
    (.region [
    ⟨.lit 2 1 [.int .i64 0] [(0, 1), (1, 1)], [.c (.int .i64 12), .c (.int .i64 (-18))], none, none⟩,
    ⟨.call 75, [.tmp 0], none, none⟩,
    ⟨.bin .eql, [.tmp 1, .c (.int .i64 6)], none, none⟩,
    ⟨.mov, [.tmp 2], none, none⟩,
    ⟨.call 81, [.c (.int .i64 6)], none, some (3, true)⟩,
    ⟨.lit 2 1 [.int .i64 0] [(0, 1), (1, 1)], [.c (.int .i64 1), .c (.int .i64 5)], none, some (3, true)⟩,
    ⟨.call 84, [.tmp 4, .tmp 5], none, some (3, true)⟩,
    ⟨.pick, [.tmp 3, .tmp 6, .c (.bool false)], none, none⟩,
    ⟨.mov, [.tmp 7], none, none⟩,
    ⟨.call 85, [.c (.int .i64 6)], none, some (8, true)⟩,
    ⟨.bin .eql, [.tmp 9, .c (.int .i64 12)], none, some (8, true)⟩,
    ⟨.pick, [.tmp 8, .tmp 10, .c (.bool false)], none, none⟩,
    ⟨.mov, [.tmp 11], none, none⟩,
    ⟨.call 82, [.c (.int .i64 6), .c (.int .i64 8)], none, some (12, true)⟩,
    ⟨.lit 6 1 [.int .i64 0] [(0, 1), (1, 1), (2, 1), (3, 1), (4, 1), (5, 1)], [.c (.int .i64 2), .c (.int .i64 1), .c (.int .i64 0), .c (.int .i64 5), .c (.int .i64 4), .c (.int .i64 3)], none, some (12, true)⟩,
    ⟨.call 84, [.tmp 13, .tmp 14], none, some (12, true)⟩,
    ⟨.pick, [.tmp 12, .tmp 15, .c (.bool false)], none, none⟩,
    ⟨.mov, [.tmp 16], none, none⟩,
    ⟨.lit 2 1 [.int .i64 0] [(0, 1), (1, 1)], [.c (.int .i64 0), .c (.int .i64 9)], none, some (17, true)⟩,
    ⟨.call 83, [.c (.int .i64 6), .c (.int .i64 (-1)), .tmp 18], none, some (17, true)⟩,
    ⟨.lit 5 1 [.int .i64 0] [(0, 1), (1, 1), (2, 1), (3, 1), (4, 1)], [.c (.int .i64 5), .c (.int .i64 4), .c (.int .i64 3), .c (.int .i64 2), .c (.int .i64 1)], none, some (17, true)⟩,
    ⟨.call 84, [.tmp 19, .tmp 20], none, some (17, true)⟩,
    ⟨.pick, [.tmp 17, .tmp 21, .c (.bool false)], none, none⟩,
    ⟨.mov, [.tmp 22], none, none⟩,
    ⟨.mov, [.loc 1], none, some (23, true)⟩,
    ⟨.bin .eql, [.tmp 24, .c (.int .i64 8)], none, some (23, true)⟩,
    ⟨.pick, [.tmp 23, .tmp 25, .c (.bool false)], none, none⟩,
    ⟨.mov, [.tmp 26], none, none⟩,
    ⟨.mov, [.loc 2], none, some (27, true)⟩,
    ⟨.pick, [.tmp 27, .tmp 28, .c (.bool false)], none, none⟩,
    ⟨.mov, [.tmp 29], some 0, none⟩])
    .ret))) }

/-- 75 -/
def stride_Gcd : AFn := { nloc := 8, npar := 1, res := [.loc 1], body :=
    (.seq
    (.region [
    ⟨.mov, [.c (.int .i64 0)], some 1, none⟩])
    (.seq
    (.seq
    (.region [
    ⟨.mov, [.loc 0], some 3, none⟩,
    ⟨.len, [.tmp 0], some 4, none⟩,
    ⟨.mov, [.c (.int .i64 0)], some 5, none⟩])
    (.block 0
    (.loop
    (.seq
    (.region [
    ⟨.bin .lss, [.loc 5, .loc 4], some 6, none⟩])
    (.seq
    (.cond (.loc 6)
      .skip
      (.exit 0))
    (.seq
    (.block 1
    (.seq
    (.region [
    ⟨.iaddr 1 none, [.loc 3, .loc 5], none, none⟩,
    ⟨.load none, [.tmp 0], none, none⟩,
    ⟨.mov, [.tmp 1], some 2, none⟩])
    (.block 2
    (.loop
    (.seq
    (.seq
    (.region [
    ⟨.mov, [.loc 2], none, none⟩,
    ⟨.bin .neq, [.tmp 0, .c (.int .i64 0)], some 7, none⟩])
    (.cond (.loc 7)
      .skip
      (.exit 2)))
    (.block 3
    (.region [
    ⟨.mov, [.loc 2], none, none⟩,
    ⟨.mov, [.loc 1], none, none⟩,
    ⟨.mov, [.loc 2], none, none⟩,
    ⟨.bin .rem, [.tmp 1, .tmp 2], none, none⟩,
    ⟨.mov, [.tmp 0], some 1, none⟩,
    ⟨.mov, [.tmp 3], some 2, none⟩])))))))
    (.region [
    ⟨.bin .add, [.loc 5, .c (.int .i64 1)], none, none⟩,
    ⟨.mov, [.tmp 0], some 5, none⟩])))))))
    (.seq
    (.region [
    ⟨.mov, [.loc 1], none, none⟩,
    ⟨.mov, [.loc 1], none, none⟩,
    ⟨.neg, [.tmp 1], none, none⟩,
    ⟨.max, [.tmp 0, .tmp 2], none, none⟩,
    ⟨.mov, [.tmp 3], some 1, none⟩])
    .ret))) }

/-- 76 -/
def ref03_Gcd : AFn := { nloc := 10, npar := 1, res := [.loc 1], body :=
    (.seq
    (.region [
    ⟨.mov, [.c (.int .i64 0)], some 1, none⟩])
    (.seq
    (.region [
    ⟨.mov, [.c (.int .i64 0)], some 2, none⟩])
    (.seq
    (.seq
    (.region [
    ⟨.mov, [.c (.int .i64 1)], some 3, none⟩])
    (.block 0
    (.loop
    (.seq
    (.seq
    (.region [
    ⟨.mov, [.loc 3], none, none⟩,
    ⟨.bin .leq, [.tmp 0, .c (.int .i64 10000)], some 7, none⟩])
    (.cond (.loc 7)
      .skip
      (.exit 0)))
    (.seq
    (.block 1
    (.seq
    (.region [
    ⟨.mov, [.c (.bool true)], some 4, none⟩,
    ⟨.mov, [.c (.bool false)], some 5, none⟩])
    (.seq
    (.seq
    (.region [
    ⟨.mov, [.c (.int .i64 0)], some 6, none⟩])
    (.block 2
    (.loop
    (.seq
    (.seq
    (.region [
    ⟨.mov, [.loc 6], none, none⟩,
    ⟨.mov, [.loc 0], none, none⟩,
    ⟨.len, [.tmp 1], none, none⟩,
    ⟨.bin .lss, [.tmp 0, .tmp 2], some 8, none⟩])
    (.cond (.loc 8)
      .skip
      (.exit 2)))
    (.seq
    (.block 3
    (.seq
    (.region [
    ⟨.mov, [.loc 4], none, none⟩,
    ⟨.mov, [.tmp 0], none, none⟩,
    ⟨.mov, [.loc 3], none, some (1, true)⟩,
    ⟨.mov, [.loc 0], none, some (1, true)⟩,
    ⟨.mov, [.loc 6], none, some (1, true)⟩,
    ⟨.iaddr 1 none, [.tmp 3, .tmp 4], none, some (1, true)⟩,
    ⟨.load none, [.tmp 5], none, some (1, true)⟩,
    ⟨.call 92, [.tmp 2, .tmp 6], none, some (1, true)⟩,
    ⟨.pick, [.tmp 1, .tmp 7, .c (.bool false)], none, none⟩,
    ⟨.mov, [.tmp 8], some 4, none⟩])
    (.region [
    ⟨.mov, [.loc 5], none, none⟩,
    ⟨.mov, [.tmp 0], none, none⟩,
    ⟨.mov, [.loc 0], none, some (1, false)⟩,
    ⟨.mov, [.loc 6], none, some (1, false)⟩,
    ⟨.iaddr 1 none, [.tmp 2, .tmp 3], none, some (1, false)⟩,
    ⟨.load none, [.tmp 4], none, some (1, false)⟩,
    ⟨.bin .neq, [.tmp 5, .c (.int .i64 0)], none, some (1, false)⟩,
    ⟨.pick, [.tmp 1, .c (.bool true), .tmp 6], none, none⟩,
    ⟨.mov, [.tmp 7], some 5, none⟩])))
    (.region [
    ⟨.mov, [.loc 6], none, none⟩,
    ⟨.bin .add, [.tmp 0, .c (.int .i64 1)], none, none⟩,
    ⟨.mov, [.tmp 1], some 6, none⟩]))))))
    (.seq
    (.region [
    ⟨.mov, [.loc 4], none, none⟩,
    ⟨.mov, [.tmp 0], none, none⟩,
    ⟨.mov, [.loc 5], none, some (1, true)⟩,
    ⟨.pick, [.tmp 1, .tmp 2, .c (.bool false)], some 9, none⟩])
    (.cond (.loc 9)
      (.region [
    ⟨.mov, [.loc 3], none, none⟩,
    ⟨.mov, [.tmp 0], some 2, none⟩])
      .skip)))))
    (.region [
    ⟨.mov, [.loc 3], none, none⟩,
    ⟨.bin .add, [.tmp 0, .c (.int .i64 1)], none, none⟩,
    ⟨.mov, [.tmp 1], some 3, none⟩]))))))
    (.seq
    (.region [
    ⟨.mov, [.loc 2], none, none⟩,
    ⟨.mov, [.tmp 0], some 1, none⟩])
    .ret)))) }

/-- 78 -/
def ref03_Strides : AFn := { nloc := 6, npar := 1, res := [.loc 1], body :=
    (.seq
    (.region [
    ⟨.mov, [.c (.nils)], some 1, none⟩])
    (.seq
    (.region [
    ⟨.mov, [.c (.nils)], some 2, none⟩])
    (.seq
    (.seq
    (.region [
    ⟨.mov, [.c (.int .i64 1)], some 3, none⟩])
    (.block 0
    (.loop
    (.seq
    (.seq
    (.region [
    ⟨.mov, [.loc 3], none, none⟩,
    ⟨.mov, [.loc 0], none, none⟩,
    ⟨.bin .leq, [.tmp 0, .tmp 1], none, none⟩,
    ⟨.mov, [.tmp 2], none, none⟩,
    ⟨.mov, [.loc 0], none, some (3, true)⟩,
    ⟨.bin .leq, [.tmp 4, .c (.int .i64 64)], none, some (3, true)⟩,
    ⟨.pick, [.tmp 3, .tmp 5, .c (.bool false)], some 4, none⟩])
    (.cond (.loc 4)
      .skip
      (.exit 0)))
    (.seq
    (.block 1
    (.seq
    (.region [
    ⟨.mov, [.loc 3], none, none⟩,
    ⟨.mov, [.loc 0], none, none⟩,
    ⟨.call 89, [.tmp 0, .tmp 1], none, none⟩,
    ⟨.bin .eql, [.tmp 2, .c (.int .i64 1)], some 5, none⟩])
    (.cond (.loc 5)
      (.region [
    ⟨.mov, [.loc 2], none, none⟩,
    ⟨.mov, [.loc 3], none, none⟩,
    ⟨.lit 1 1 [.int .i64 0] [(0, 1)], [.tmp 1], none, none⟩,
    ⟨.append 1 8, [.tmp 0, .tmp 2], none, none⟩,
    ⟨.mov, [.tmp 3], some 2, none⟩])
      .skip)))
    (.region [
    ⟨.mov, [.loc 3], none, none⟩,
    ⟨.bin .add, [.tmp 0, .c (.int .i64 1)], none, none⟩,
    ⟨.mov, [.tmp 1], some 3, none⟩]))))))
    (.seq
    (.region [
    ⟨.mov, [.loc 2], none, none⟩,
    ⟨.mov, [.tmp 0], some 1, none⟩])
    .ret)))) }

/-- 79 -/
def ref03_Order : AFn := { nloc := 10, npar := 2, res := [.loc 2], body :=
    (.seq
    (.region [
    ⟨.mov, [.c (.nils)], some 2, none⟩])
    (.seq
    (.region [
    ⟨.mov, [.c (.nils)], some 3, none⟩])
    (.seq
    (.seq
    (.region [
    ⟨.mov, [.loc 0], none, none⟩,
    ⟨.bin .lss, [.tmp 0, .c (.int .i64 1)], none, none⟩,
    ⟨.mov, [.tmp 1], none, none⟩,
    ⟨.mov, [.loc 0], none, some (2, false)⟩,
    ⟨.bin .gtr, [.tmp 3, .c (.int .i64 64)], none, some (2, false)⟩,
    ⟨.pick, [.tmp 2, .c (.bool true), .tmp 4], some 7, none⟩])
    (.cond (.loc 7)
      (.seq
      (.region [
    ⟨.mov, [.c (.nils)], some 2, none⟩])
      .ret)
      .skip))
    (.seq
    (.region [
    ⟨.mov, [.loc 0], none, none⟩,
    ⟨.call 78, [.tmp 0], none, none⟩,
    ⟨.mov, [.tmp 1], some 4, none⟩])
    (.seq
    (.region [
    ⟨.mov, [.loc 0], none, none⟩,
    ⟨.mov, [.loc 4], none, none⟩,
    ⟨.len, [.tmp 1], none, none⟩,
    ⟨.bin .mul, [.tmp 0, .tmp 2], none, none⟩,
    ⟨.mov, [.tmp 3], some 5, none⟩])
    (.seq
    (.region [
    ⟨.mov, [.loc 1], none, none⟩,
    ⟨.mov, [.loc 5], none, none⟩,
    ⟨.bin .rem, [.tmp 0, .tmp 1], none, none⟩,
    ⟨.mov, [.tmp 2], some 1, none⟩])
    (.seq
    (.seq
    (.region [
    ⟨.mov, [.loc 1], none, none⟩,
    ⟨.bin .lss, [.tmp 0, .c (.int .i64 0)], some 8, none⟩])
    (.cond (.loc 8)
      (.region [
    ⟨.mov, [.loc 1], none, none⟩,
    ⟨.mov, [.loc 5], none, none⟩,
    ⟨.bin .add, [.tmp 0, .tmp 1], none, none⟩,
    ⟨.mov, [.tmp 2], some 1, none⟩])
      .skip))
    (.seq
    (.seq
    (.region [
    ⟨.mov, [.c (.int .i64 0)], some 6, none⟩])
    (.block 0
    (.loop
    (.seq
    (.seq
    (.region [
    ⟨.mov, [.loc 6], none, none⟩,
    ⟨.mov, [.loc 0], none, none⟩,
    ⟨.bin .lss, [.tmp 0, .tmp 1], some 9, none⟩])
    (.cond (.loc 9)
      .skip
      (.exit 0)))
    (.seq
    (.block 1
    (.region [
    ⟨.mov, [.loc 3], none, none⟩,
    ⟨.mov, [.loc 1], none, none⟩,
    ⟨.mov, [.loc 0], none, none⟩,
    ⟨.bin .rem, [.tmp 1, .tmp 2], none, none⟩,
    ⟨.mov, [.loc 6], none, none⟩,
    ⟨.mov, [.loc 4], none, none⟩,
    ⟨.mov, [.loc 1], none, none⟩,
    ⟨.mov, [.loc 0], none, none⟩,
    ⟨.bin .quo, [.tmp 6, .tmp 7], none, none⟩,
    ⟨.iaddr 1 none, [.tmp 5, .tmp 8], none, none⟩,
    ⟨.load none, [.tmp 9], none, none⟩,
    ⟨.bin .mul, [.tmp 4, .tmp 10], none, none⟩,
    ⟨.bin .add, [.tmp 3, .tmp 11], none, none⟩,
    ⟨.mov, [.loc 0], none, none⟩,
    ⟨.bin .rem, [.tmp 12, .tmp 13], none, none⟩,
    ⟨.lit 1 1 [.int .i64 0] [(0, 1)], [.tmp 14], none, none⟩,
    ⟨.append 1 8, [.tmp 0, .tmp 15], none, none⟩,
    ⟨.mov, [.tmp 16], some 3, none⟩]))
    (.region [
    ⟨.mov, [.loc 6], none, none⟩,
    ⟨.bin .add, [.tmp 0, .c (.int .i64 1)], none, none⟩,
    ⟨.mov, [.tmp 1], some 6, none⟩]))))))
    (.seq
    (.region [
    ⟨.mov, [.loc 3], none, none⟩,
    ⟨.mov, [.tmp 0], some 2, none⟩])
    .ret))))))))) }

/-- 80 -/
def ref03_Others : AFn := { nloc := 12, npar := 3, res := [.loc 3], body :=
    (.seq
    (.region [
    ⟨.mov, [.c (.nils)], some 3, none⟩])
    (.seq
    (.region [
    ⟨.mov, [.c (.nils)], some 4, none⟩])
    (.seq
    (.region [
    ⟨.mov, [.loc 0], none, none⟩,
    ⟨.mov, [.loc 1], none, none⟩,
    ⟨.call 79, [.tmp 0, .tmp 1], none, none⟩,
    ⟨.mov, [.tmp 2], some 5, none⟩])
    (.seq
    (.seq
    (.region [
    ⟨.mov, [.c (.int .i64 0)], some 6, none⟩])
    (.block 0
    (.loop
    (.seq
    (.seq
    (.region [
    ⟨.mov, [.loc 6], none, none⟩,
    ⟨.mov, [.loc 5], none, none⟩,
    ⟨.len, [.tmp 1], none, none⟩,
    ⟨.bin .lss, [.tmp 0, .tmp 2], some 9, none⟩])
    (.cond (.loc 9)
      .skip
      (.exit 0)))
    (.seq
    (.block 1
    (.seq
    (.region [
    ⟨.mov, [.c (.bool false)], some 7, none⟩])
    (.seq
    (.seq
    (.region [
    ⟨.mov, [.c (.int .i64 0)], some 8, none⟩])
    (.block 2
    (.loop
    (.seq
    (.seq
    (.region [
    ⟨.mov, [.loc 8], none, none⟩,
    ⟨.mov, [.loc 2], none, none⟩,
    ⟨.len, [.tmp 1], none, none⟩,
    ⟨.bin .lss, [.tmp 0, .tmp 2], some 10, none⟩])
    (.cond (.loc 10)
      .skip
      (.exit 2)))
    (.seq
    (.block 3
    (.region [
    ⟨.mov, [.loc 7], none, none⟩,
    ⟨.mov, [.tmp 0], none, none⟩,
    ⟨.mov, [.loc 2], none, some (1, false)⟩,
    ⟨.mov, [.loc 8], none, some (1, false)⟩,
    ⟨.iaddr 1 none, [.tmp 2, .tmp 3], none, some (1, false)⟩,
    ⟨.load none, [.tmp 4], none, some (1, false)⟩,
    ⟨.mov, [.loc 5], none, some (1, false)⟩,
    ⟨.mov, [.loc 6], none, some (1, false)⟩,
    ⟨.iaddr 1 none, [.tmp 6, .tmp 7], none, some (1, false)⟩,
    ⟨.load none, [.tmp 8], none, some (1, false)⟩,
    ⟨.bin .eql, [.tmp 5, .tmp 9], none, some (1, false)⟩,
    ⟨.pick, [.tmp 1, .c (.bool true), .tmp 10], none, none⟩,
    ⟨.mov, [.tmp 11], some 7, none⟩]))
    (.region [
    ⟨.mov, [.loc 8], none, none⟩,
    ⟨.bin .add, [.tmp 0, .c (.int .i64 1)], none, none⟩,
    ⟨.mov, [.tmp 1], some 8, none⟩]))))))
    (.seq
    (.region [
    ⟨.mov, [.loc 7], none, none⟩,
    ⟨.not, [.tmp 0], some 11, none⟩])
    (.cond (.loc 11)
      (.region [
    ⟨.mov, [.loc 4], none, none⟩,
    ⟨.mov, [.loc 5], none, none⟩,
    ⟨.mov, [.loc 6], none, none⟩,
    ⟨.iaddr 1 none, [.tmp 1, .tmp 2], none, none⟩,
    ⟨.load none, [.tmp 3], none, none⟩,
    ⟨.lit 1 1 [.int .i64 0] [(0, 1)], [.tmp 4], none, none⟩,
    ⟨.append 1 8, [.tmp 0, .tmp 5], none, none⟩,
    ⟨.mov, [.tmp 6], some 4, none⟩])
      .skip)))))
    (.region [
    ⟨.mov, [.loc 6], none, none⟩,
    ⟨.bin .add, [.tmp 0, .c (.int .i64 1)], none, none⟩,
    ⟨.mov, [.tmp 1], some 6, none⟩]))))))
    (.seq
    (.region [
    ⟨.mov, [.loc 4], none, none⟩,
    ⟨.mov, [.tmp 0], some 3, none⟩])
    .ret))))) }

/-- 81 -/
def stride_Strides : AFn := { nloc := 13, npar := 1, res := [.loc 1], body :=
    (.seq
    (.region [
    ⟨.mov, [.c (.nils)], some 1, none⟩])
    (.scope
    (.seq
    (.seq
    (.region [
    ⟨.mov, [.loc 0], none, none⟩,
    ⟨.call 93, [.tmp 0], none, none⟩,
    ⟨.not, [.tmp 1], some 5, none⟩])
    (.cond (.loc 5)
      (.seq
      (.region [
    ⟨.mov, [.c (.nils)], some 1, none⟩])
      .ret)
      .skip))
    (.seq
    .skip
    (.seq
    (.seq
    (.region [
    ⟨.mov, [.loc 0], some 6, none⟩,
    ⟨.mov, [.c (.int .i64 0)], some 7, none⟩])
    (.block 0
    (.loop
    (.seq
    (.region [
    ⟨.bin .lss, [.loc 7, .loc 6], some 8, none⟩])
    (.seq
    (.cond (.loc 8)
      .skip
      (.exit 0))
    (.seq
    (.block 1
    (.seq
    (.region [
    ⟨.mov, [.loc 7], none, none⟩,
    ⟨.mov, [.tmp 0], some 2, none⟩])
    (.seq
    (.seq
    (.region [
    ⟨.mov, [.loc 2], none, none⟩,
    ⟨.bin .add, [.tmp 0, .c (.int .i64 1)], some 9, none⟩,
    ⟨.mov, [.c (.int .i64 0)], some 10, none⟩])
    (.block 2
    (.loop
    (.seq
    (.region [
    ⟨.bin .lss, [.loc 10, .loc 9], some 11, none⟩])
    (.seq
    (.cond (.loc 11)
      .skip
      (.exit 2))
    (.seq
    (.block 3
    (.seq
    (.region [
    ⟨.mov, [.loc 10], none, none⟩,
    ⟨.mov, [.tmp 0], some 3, none⟩])
    (.seq
    (.region [
    ⟨.mov, [.loc 3], none, none⟩,
    ⟨.bin .add, [.tmp 0, .c (.int .i64 1)], none, none⟩,
    ⟨.mov, [.tmp 1], some 4, none⟩])
    (.seq
    (.region [
    ⟨.mov, [.loc 4], none, none⟩,
    ⟨.bin .gtr, [.tmp 0, .c (.int .i64 1)], none, none⟩,
    ⟨.mov, [.tmp 1], none, none⟩,
    ⟨.mov, [.loc 0], none, some (2, true)⟩,
    ⟨.mov, [.loc 4], none, some (2, true)⟩,
    ⟨.bin .rem, [.tmp 3, .tmp 4], none, some (2, true)⟩,
    ⟨.bin .eql, [.tmp 5, .c (.int .i64 0)], none, some (2, true)⟩,
    ⟨.pick, [.tmp 2, .tmp 6, .c (.bool false)], none, none⟩,
    ⟨.mov, [.tmp 7], none, none⟩,
    ⟨.mov, [.loc 2], none, some (8, true)⟩,
    ⟨.bin .add, [.tmp 9, .c (.int .i64 1)], none, some (8, true)⟩,
    ⟨.mov, [.loc 4], none, some (8, true)⟩,
    ⟨.bin .rem, [.tmp 10, .tmp 11], none, some (8, true)⟩,
    ⟨.bin .eql, [.tmp 12, .c (.int .i64 0)], none, some (8, true)⟩,
    ⟨.pick, [.tmp 8, .tmp 13, .c (.bool false)], some 12, none⟩])
    (.cond (.loc 12)
      (.exit 1)
      .skip)))))
    (.region [
    ⟨.bin .add, [.loc 10, .c (.int .i64 1)], none, none⟩,
    ⟨.mov, [.tmp 0], some 10, none⟩])))))))
    (.region [
    ⟨.mov, [.loc 1], none, none⟩,
    ⟨.mov, [.loc 2], none, none⟩,
    ⟨.bin .add, [.tmp 1, .c (.int .i64 1)], none, none⟩,
    ⟨.lit 1 1 [.int .i64 0] [(0, 1)], [.tmp 2], none, none⟩,
    ⟨.append 1 8, [.tmp 0, .tmp 3], none, none⟩,
    ⟨.mov, [.tmp 4], some 1, none⟩]))))
    (.region [
    ⟨.bin .add, [.loc 7, .c (.int .i64 1)], none, none⟩,
    ⟨.mov, [.tmp 0], some 7, none⟩])))))))
    (.seq
    (.region [
    ⟨.mov, [.loc 1], none, none⟩,
    ⟨.mov, [.tmp 0], some 1, none⟩])
    .ret)))))) }

/-- 82 -/
def stride_Order : AFn := { nloc := 10, npar := 2, res := [.loc 2], body :=
    (.seq
    (.region [
    ⟨.mov, [.c (.nils)], some 2, none⟩])
    (.seq
    (.seq
    (.region [
    ⟨.mov, [.loc 0], none, none⟩,
    ⟨.call 93, [.tmp 0], none, none⟩,
    ⟨.not, [.tmp 1], some 6, none⟩])
    (.cond (.loc 6)
      (.seq
      (.region [
    ⟨.mov, [.c (.nils)], some 2, none⟩])
      .ret)
      .skip))
    (.seq
    (.region [
    ⟨.mov, [.loc 0], none, none⟩,
    ⟨.call 85, [.tmp 0], none, none⟩,
    ⟨.mov, [.tmp 1], some 3, none⟩])
    (.seq
    (.region [
    ⟨.mov, [.loc 1], none, none⟩,
    ⟨.mov, [.loc 3], none, none⟩,
    ⟨.bin .rem, [.tmp 0, .tmp 1], none, none⟩,
    ⟨.mov, [.loc 3], none, none⟩,
    ⟨.bin .add, [.tmp 2, .tmp 3], none, none⟩,
    ⟨.mov, [.loc 3], none, none⟩,
    ⟨.bin .rem, [.tmp 4, .tmp 5], none, none⟩,
    ⟨.mov, [.tmp 6], some 1, none⟩])
    (.seq
    (.region [
    ⟨.mov, [.loc 1], none, none⟩,
    ⟨.mov, [.loc 0], none, none⟩,
    ⟨.bin .rem, [.tmp 0, .tmp 1], none, none⟩,
    ⟨.mov, [.loc 0], none, none⟩,
    ⟨.call 81, [.tmp 3], none, none⟩,
    ⟨.mov, [.loc 1], none, none⟩,
    ⟨.mov, [.loc 0], none, none⟩,
    ⟨.bin .quo, [.tmp 5, .tmp 6], none, none⟩,
    ⟨.iaddr 1 none, [.tmp 4, .tmp 7], none, none⟩,
    ⟨.load none, [.tmp 8], none, none⟩,
    ⟨.mov, [.tmp 2], some 4, none⟩,
    ⟨.mov, [.tmp 9], some 5, none⟩])
    (.seq
    (.seq
    (.region [
    ⟨.mov, [.loc 0], some 7, none⟩,
    ⟨.mov, [.c (.int .i64 0)], some 8, none⟩])
    (.block 0
    (.loop
    (.seq
    (.region [
    ⟨.bin .lss, [.loc 8, .loc 7], some 9, none⟩])
    (.seq
    (.cond (.loc 9)
      .skip
      (.exit 0))
    (.seq
    (.block 1
    (.seq
    (.region [
    ⟨.mov, [.loc 2], none, none⟩,
    ⟨.mov, [.loc 4], none, none⟩,
    ⟨.lit 1 1 [.int .i64 0] [(0, 1)], [.tmp 1], none, none⟩,
    ⟨.append 1 8, [.tmp 0, .tmp 2], none, none⟩,
    ⟨.mov, [.tmp 3], some 2, none⟩])
    (.region [
    ⟨.mov, [.loc 4], none, none⟩,
    ⟨.mov, [.loc 5], none, none⟩,
    ⟨.bin .add, [.tmp 0, .tmp 1], none, none⟩,
    ⟨.mov, [.loc 0], none, none⟩,
    ⟨.bin .rem, [.tmp 2, .tmp 3], none, none⟩,
    ⟨.mov, [.tmp 4], some 4, none⟩])))
    (.region [
    ⟨.bin .add, [.loc 8, .c (.int .i64 1)], none, none⟩,
    ⟨.mov, [.tmp 0], some 8, none⟩])))))))
    (.seq
    (.region [
    ⟨.mov, [.loc 2], none, none⟩,
    ⟨.mov, [.tmp 0], some 2, none⟩])
    .ret))))))) }

/-- 83 -/
def stride_Others : AFn := { nloc := 5, npar := 3, res := [.loc 4], body :=
    (.seq
    (.region [
    ⟨.box, [.loc 2], some 3, none⟩,
    ⟨.mov, [.c (.nils)], some 4, none⟩])
    (.seq
    (.region [
    ⟨.mov, [.loc 0], none, none⟩,
    ⟨.mov, [.loc 1], none, none⟩,
    ⟨.call 82, [.tmp 0, .tmp 1], none, none⟩,
    ⟨.mkfn 94 0, [.loc 3], none, none⟩,
    ⟨.call 95, [.tmp 2, .tmp 3], none, none⟩,
    ⟨.mov, [.tmp 4], some 4, none⟩])
    .ret)) }

/-- 84 -/
def kit_SameInts : AFn := { nloc := 7, npar := 2, res := [.loc 2], body :=
    (.seq
    (.region [
    ⟨.mov, [.c (.bool false)], some 2, none⟩])
    (.seq
    (.seq
    (.region [
    ⟨.mov, [.loc 0], none, none⟩,
    ⟨.len, [.tmp 0], none, none⟩,
    ⟨.mov, [.loc 1], none, none⟩,
    ⟨.len, [.tmp 2], none, none⟩,
    ⟨.bin .neq, [.tmp 1, .tmp 3], some 4, none⟩])
    (.cond (.loc 4)
      (.seq
      (.region [
    ⟨.mov, [.c (.bool false)], some 2, none⟩])
      .ret)
      .skip))
    (.seq
    (.seq
    (.region [
    ⟨.mov, [.c (.int .i64 0)], some 3, none⟩])
    (.block 0
    (.loop
    (.seq
    (.seq
    (.region [
    ⟨.mov, [.loc 3], none, none⟩,
    ⟨.mov, [.loc 0], none, none⟩,
    ⟨.len, [.tmp 1], none, none⟩,
    ⟨.bin .lss, [.tmp 0, .tmp 2], some 5, none⟩])
    (.cond (.loc 5)
      .skip
      (.exit 0)))
    (.seq
    (.block 1
    (.seq
    (.region [
    ⟨.mov, [.loc 0], none, none⟩,
    ⟨.mov, [.loc 3], none, none⟩,
    ⟨.iaddr 1 none, [.tmp 0, .tmp 1], none, none⟩,
    ⟨.load none, [.tmp 2], none, none⟩,
    ⟨.mov, [.loc 1], none, none⟩,
    ⟨.mov, [.loc 3], none, none⟩,
    ⟨.iaddr 1 none, [.tmp 4, .tmp 5], none, none⟩,
    ⟨.load none, [.tmp 6], none, none⟩,
    ⟨.bin .neq, [.tmp 3, .tmp 7], some 6, none⟩])
    (.cond (.loc 6)
      (.seq
      (.region [
    ⟨.mov, [.c (.bool false)], some 2, none⟩])
      .ret)
      .skip)))
    (.region [
    ⟨.mov, [.loc 3], none, none⟩,
    ⟨.bin .add, [.tmp 0, .c (.int .i64 1)], none, none⟩,
    ⟨.mov, [.tmp 1], some 3, none⟩]))))))
    (.seq
    (.region [
    ⟨.mov, [.c (.bool true)], some 2, none⟩])
    .ret)))) }

/-- 85 -/
def stride_Orders : AFn := { nloc := 2, npar := 1, res := [.loc 1], body :=
    (.seq
    (.region [
    ⟨.mov, [.c (.int .i64 0)], some 1, none⟩])
    (.seq
    (.region [
    ⟨.mov, [.loc 0], none, none⟩,
    ⟨.mov, [.loc 0], none, none⟩,
    ⟨.call 81, [.tmp 1], none, none⟩,
    ⟨.len, [.tmp 2], none, none⟩,
    ⟨.bin .mul, [.tmp 0, .tmp 3], none, none⟩,
    ⟨.mov, [.tmp 4], some 1, none⟩])
    .ret)) }

/-- 87 -/
def kit_Pick : AFn := { nloc := 4, npar := 2, res := [.loc 2], body :=
    (.seq
    (.region [
    ⟨.mov, [.c (.int .i64 0)], some 2, none⟩])
    (.seq
    (.seq
    (.region [
    ⟨.mov, [.loc 1], none, none⟩,
    ⟨.bin .leq, [.tmp 0, .c (.int .i64 0)], some 3, none⟩])
    (.cond (.loc 3)
      (.seq
      (.region [
    ⟨.mov, [.c (.int .i64 0)], some 2, none⟩])
      .ret)
      .skip))
    (.seq
    (.region [
    ⟨.mov, [.loc 0], none, none⟩,
    ⟨.mov, [.loc 1], none, none⟩,
    ⟨.bin .rem, [.tmp 0, .tmp 1], none, none⟩,
    ⟨.mov, [.loc 1], none, none⟩,
    ⟨.bin .add, [.tmp 2, .tmp 3], none, none⟩,
    ⟨.mov, [.loc 1], none, none⟩,
    ⟨.bin .rem, [.tmp 4, .tmp 5], none, none⟩,
    ⟨.mov, [.tmp 6], some 2, none⟩])
    .ret))) }

/-- 88 -/
def stride_Draw : AFn := { nloc := 7, npar := 3, res := [.loc 3, .loc 4], body :=
    (.seq
    (.region [
    ⟨.mov, [.c (.int .i64 0)], some 3, none⟩,
    ⟨.mov, [.c (.bool false)], some 4, none⟩])
    (.seq
    (.region [
    ⟨.mov, [.loc 0], none, none⟩,
    ⟨.call 81, [.tmp 0], none, none⟩,
    ⟨.mov, [.loc 2], none, none⟩,
    ⟨.call 96, [.tmp 1, .tmp 2], none, none⟩,
    ⟨.mov, [.tmp 3], some 5, none⟩])
    (.seq
    (.seq
    (.region [
    ⟨.mov, [.loc 5], none, none⟩,
    ⟨.bin .lss, [.tmp 0, .c (.int .i64 0)], none, none⟩,
    ⟨.mov, [.tmp 1], none, none⟩,
    ⟨.mov, [.loc 1], none, some (2, false)⟩,
    ⟨.bin .lss, [.tmp 3, .c (.int .i64 0)], none, some (2, false)⟩,
    ⟨.pick, [.tmp 2, .c (.bool true), .tmp 4], none, none⟩,
    ⟨.mov, [.tmp 5], none, none⟩,
    ⟨.mov, [.loc 1], none, some (6, false)⟩,
    ⟨.mov, [.loc 0], none, some (6, false)⟩,
    ⟨.bin .geq, [.tmp 7, .tmp 8], none, some (6, false)⟩,
    ⟨.pick, [.tmp 6, .c (.bool true), .tmp 9], some 6, none⟩])
    (.cond (.loc 6)
      (.seq
      (.region [
    ⟨.mov, [.c (.int .i64 0)], some 3, none⟩,
    ⟨.mov, [.c (.bool false)], some 4, none⟩])
      .ret)
      .skip))
    (.seq
    (.region [
    ⟨.mov, [.loc 5], none, none⟩,
    ⟨.mov, [.loc 0], none, none⟩,
    ⟨.bin .mul, [.tmp 0, .tmp 1], none, none⟩,
    ⟨.mov, [.loc 1], none, none⟩,
    ⟨.bin .add, [.tmp 2, .tmp 3], none, none⟩,
    ⟨.mov, [.tmp 4], some 3, none⟩,
    ⟨.mov, [.c (.bool true)], some 4, none⟩])
    .ret)))) }

/-- 89 -/
def ref03_Gcd2 : AFn := { nloc := 7, npar := 2, res := [.loc 2], body :=
    (.seq
    (.region [
    ⟨.mov, [.c (.int .i64 0)], some 2, none⟩])
    (.seq
    (.region [
    ⟨.mov, [.c (.int .i64 1)], some 3, none⟩])
    (.seq
    (.seq
    (.region [
    ⟨.mov, [.c (.int .i64 2)], some 4, none⟩])
    (.block 0
    (.loop
    (.seq
    (.seq
    (.region [
    ⟨.mov, [.loc 4], none, none⟩,
    ⟨.bin .leq, [.tmp 0, .c (.int .i64 64)], some 5, none⟩])
    (.cond (.loc 5)
      .skip
      (.exit 0)))
    (.seq
    (.block 1
    (.seq
    (.region [
    ⟨.mov, [.loc 4], none, none⟩,
    ⟨.mov, [.loc 0], none, none⟩,
    ⟨.call 92, [.tmp 0, .tmp 1], none, none⟩,
    ⟨.mov, [.tmp 2], none, none⟩,
    ⟨.mov, [.loc 4], none, some (3, true)⟩,
    ⟨.mov, [.loc 1], none, some (3, true)⟩,
    ⟨.call 92, [.tmp 4, .tmp 5], none, some (3, true)⟩,
    ⟨.pick, [.tmp 3, .tmp 6, .c (.bool false)], some 6, none⟩])
    (.cond (.loc 6)
      (.region [
    ⟨.mov, [.loc 4], none, none⟩,
    ⟨.mov, [.tmp 0], some 3, none⟩])
      .skip)))
    (.region [
    ⟨.mov, [.loc 4], none, none⟩,
    ⟨.bin .add, [.tmp 0, .c (.int .i64 1)], none, none⟩,
    ⟨.mov, [.tmp 1], some 4, none⟩]))))))
    (.seq
    (.region [
    ⟨.mov, [.loc 3], none, none⟩,
    ⟨.mov, [.tmp 0], some 2, none⟩])
    .ret)))) }

/-- 92 -/
def ref03_divides : AFn := { nloc := 3, npar := 2, res := [.loc 2], body :=
    (.seq
    (.region [
    ⟨.mov, [.c (.bool false)], some 2, none⟩])
    (.seq
    (.region [
    ⟨.mov, [.loc 1], none, none⟩,
    ⟨.mov, [.loc 0], none, none⟩,
    ⟨.bin .rem, [.tmp 0, .tmp 1], none, none⟩,
    ⟨.bin .eql, [.tmp 2, .c (.int .i64 0)], none, none⟩,
    ⟨.mov, [.tmp 3], some 2, none⟩])
    .ret)) }

/-- 93 -/
def stride_right : AFn := { nloc := 2, npar := 1, res := [.loc 1], body :=
    (.seq
    (.region [
    ⟨.mov, [.c (.bool false)], some 1, none⟩])
    (.seq
    (.region [
    ⟨.mov, [.loc 0], none, none⟩,
    ⟨.bin .geq, [.tmp 0, .c (.int .i64 1)], none, none⟩,
    ⟨.mov, [.tmp 1], none, none⟩,
    ⟨.mov, [.loc 0], none, some (2, true)⟩,
    ⟨.bin .leq, [.tmp 3, .c (.int .i64 64)], none, some (2, true)⟩,
    ⟨.pick, [.tmp 2, .tmp 4, .c (.bool false)], none, none⟩,
    ⟨.mov, [.tmp 5], some 1, none⟩])
    .ret)) }

/-- 95 -/
def slices_DeleteFunc_int : AFn := { nloc := 9, npar := 2, res := [.loc 2], body :=
    (.seq
    (.region [
    ⟨.mov, [.c (.nils)], some 2, none⟩])
    (.seq
    (.region [
    ⟨.mov, [.loc 0], none, none⟩,
    ⟨.mov, [.loc 1], none, none⟩,
    ⟨.call 97, [.tmp 0, .tmp 1], none, none⟩,
    ⟨.mov, [.tmp 2], some 3, none⟩])
    (.seq
    (.seq
    (.region [
    ⟨.mov, [.loc 3], none, none⟩,
    ⟨.bin .eql, [.tmp 0, .c (.int .i64 (-1))], some 6, none⟩])
    (.cond (.loc 6)
      (.seq
      (.region [
    ⟨.mov, [.loc 0], none, none⟩,
    ⟨.mov, [.tmp 0], some 2, none⟩])
      .ret)
      .skip))
    (.seq
    (.seq
    (.region [
    ⟨.mov, [.loc 3], none, none⟩,
    ⟨.bin .add, [.tmp 0, .c (.int .i64 1)], none, none⟩,
    ⟨.mov, [.tmp 1], some 4, none⟩])
    (.block 0
    (.loop
    (.seq
    (.seq
    (.region [
    ⟨.mov, [.loc 4], none, none⟩,
    ⟨.mov, [.loc 0], none, none⟩,
    ⟨.len, [.tmp 1], none, none⟩,
    ⟨.bin .lss, [.tmp 0, .tmp 2], some 7, none⟩])
    (.cond (.loc 7)
      .skip
      (.exit 0)))
    (.seq
    (.block 1
    (.seq
    (.region [
    ⟨.mov, [.loc 0], none, none⟩,
    ⟨.mov, [.loc 4], none, none⟩,
    ⟨.iaddr 1 none, [.tmp 0, .tmp 1], none, none⟩,
    ⟨.load none, [.tmp 2], none, none⟩,
    ⟨.mov, [.tmp 3], some 5, none⟩])
    (.seq
    (.region [
    ⟨.mov, [.loc 1], none, none⟩,
    ⟨.mov, [.loc 5], none, none⟩,
    ⟨.callv, [.tmp 0, .tmp 1], none, none⟩,
    ⟨.not, [.tmp 2], some 8, none⟩])
    (.cond (.loc 8)
      (.seq
      (.region [
    ⟨.mov, [.loc 0], none, none⟩,
    ⟨.mov, [.loc 3], none, none⟩,
    ⟨.mov, [.loc 5], none, none⟩,
    ⟨.iaddr 1 none, [.tmp 0, .tmp 1], none, none⟩,
    ⟨.store 1, [.tmp 3, .tmp 2], none, none⟩])
      (.region [
    ⟨.mov, [.loc 3], none, none⟩,
    ⟨.bin .add, [.tmp 0, .c (.int .i64 1)], none, none⟩,
    ⟨.mov, [.tmp 1], some 3, none⟩]))
      .skip))))
    (.region [
    ⟨.mov, [.loc 4], none, none⟩,
    ⟨.bin .add, [.tmp 0, .c (.int .i64 1)], none, none⟩,
    ⟨.mov, [.tmp 1], some 4, none⟩]))))))
    (.seq
    (.region [
    ⟨.mov, [.loc 0], none, none⟩,
    ⟨.mov, [.loc 3], none, none⟩,
    ⟨.slice 1 true false false, [.tmp 0, .tmp 1], none, none⟩,
    ⟨.clear 1 [.int .i64 0], [.tmp 2], none, none⟩])
    (.seq
    (.region [
    ⟨.mov, [.loc 0], none, none⟩,
    ⟨.mov, [.loc 3], none, none⟩,
    ⟨.slice 1 false true false, [.tmp 0, .tmp 1], none, none⟩,
    ⟨.mov, [.tmp 2], some 2, none⟩])
    .ret)))))) }

/-- 94 -/
def stride_Others_1 : AFn := { nloc := 3, npar := 2, res := [.loc 2], body :=
    (.seq
    (.region [
    ⟨.mov, [.c (.bool false)], some 2, none⟩])
    (.seq
    (.region [
    ⟨.load none, [.loc 1], none, none⟩,
    ⟨.mov, [.loc 0], none, none⟩,
    ⟨.call 98, [.tmp 0, .tmp 1], none, none⟩,
    ⟨.mov, [.tmp 2], some 2, none⟩])
    .ret)) }

/-- 98 -/
def slices_Contains_int : AFn := { nloc := 3, npar := 2, res := [.loc 2], body :=
    (.seq
    (.region [
    ⟨.mov, [.c (.bool false)], some 2, none⟩])
    (.seq
    (.region [
    ⟨.mov, [.loc 0], none, none⟩,
    ⟨.mov, [.loc 1], none, none⟩,
    ⟨.call 96, [.tmp 0, .tmp 1], none, none⟩,
    ⟨.bin .geq, [.tmp 2, .c (.int .i64 0)], none, none⟩,
    ⟨.mov, [.tmp 3], some 2, none⟩])
    .ret)) }

/-- 96 -/
def slices_Index_int : AFn := { nloc := 8, npar := 2, res := [.loc 2], body :=
    (.seq
    (.region [
    ⟨.mov, [.c (.int .i64 0)], some 2, none⟩])
    (.seq
    (.seq
    (.region [
    ⟨.mov, [.loc 0], none, none⟩,
    ⟨.len, [.tmp 0], some 4, none⟩,
    ⟨.mov, [.c (.int .i64 0)], some 5, none⟩])
    (.block 0
    (.loop
    (.seq
    (.region [
    ⟨.bin .lss, [.loc 5, .loc 4], some 6, none⟩])
    (.seq
    (.cond (.loc 6)
      .skip
      (.exit 0))
    (.seq
    (.block 1
    (.seq
    (.region [
    ⟨.mov, [.loc 5], none, none⟩,
    ⟨.mov, [.tmp 0], some 3, none⟩])
    (.seq
    (.region [
    ⟨.mov, [.loc 1], none, none⟩,
    ⟨.mov, [.loc 0], none, none⟩,
    ⟨.mov, [.loc 3], none, none⟩,
    ⟨.iaddr 1 none, [.tmp 1, .tmp 2], none, none⟩,
    ⟨.load none, [.tmp 3], none, none⟩,
    ⟨.bin .eql, [.tmp 0, .tmp 4], some 7, none⟩])
    (.cond (.loc 7)
      (.seq
      (.region [
    ⟨.mov, [.loc 3], none, none⟩,
    ⟨.mov, [.tmp 0], some 2, none⟩])
      .ret)
      .skip))))
    (.region [
    ⟨.bin .add, [.loc 5, .c (.int .i64 1)], none, none⟩,
    ⟨.mov, [.tmp 0], some 5, none⟩])))))))
    (.seq
    (.region [
    ⟨.mov, [.c (.int .i64 (-1))], some 2, none⟩])
    .ret))) }

/-- 97 -/
def slices_IndexFunc_int : AFn := { nloc := 8, npar := 2, res := [.loc 2], body :=
    (.seq
    (.region [
    ⟨.mov, [.c (.int .i64 0)], some 2, none⟩])
    (.seq
    (.seq
    (.region [
    ⟨.mov, [.loc 0], none, none⟩,
    ⟨.len, [.tmp 0], some 4, none⟩,
    ⟨.mov, [.c (.int .i64 0)], some 5, none⟩])
    (.block 0
    (.loop
    (.seq
    (.region [
    ⟨.bin .lss, [.loc 5, .loc 4], some 6, none⟩])
    (.seq
    (.cond (.loc 6)
      .skip
      (.exit 0))
    (.seq
    (.block 1
    (.seq
    (.region [
    ⟨.mov, [.loc 5], none, none⟩,
    ⟨.mov, [.tmp 0], some 3, none⟩])
    (.seq
    (.region [
    ⟨.mov, [.loc 1], none, none⟩,
    ⟨.mov, [.loc 0], none, none⟩,
    ⟨.mov, [.loc 3], none, none⟩,
    ⟨.iaddr 1 none, [.tmp 1, .tmp 2], none, none⟩,
    ⟨.load none, [.tmp 3], none, none⟩,
    ⟨.callv, [.tmp 0, .tmp 4], some 7, none⟩])
    (.cond (.loc 7)
      (.seq
      (.region [
    ⟨.mov, [.loc 3], none, none⟩,
    ⟨.mov, [.tmp 0], some 2, none⟩])
      .ret)
      .skip))))
    (.region [
    ⟨.bin .add, [.loc 5, .c (.int .i64 1)], none, none⟩,
    ⟨.mov, [.tmp 0], some 5, none⟩])))))))
    (.seq
    (.region [
    ⟨.mov, [.c (.int .i64 (-1))], some 2, none⟩])
    .ret))) }

end Go.Am.F03
