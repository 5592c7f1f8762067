/- The abstract readings of the functions, printed by gen.py. -/
import Derived.Test.YtfiogjimbhgacaaXAmDef
set_option linter.unusedSimpArgs false
set_option linter.unusedVariables false
namespace Go.Am.F18
set_option maxRecDepth 10000

/-- 3 -/
def law18_SliceTells : AFn := { nloc := 20, npar := 1, res := [.loc 1], body :=
    (.seq
    (.region [
    ⟨.mov, [.c (.bool false)], some 1, none⟩])
    (.seq
    (.seq
    (.region [
    ⟨.mov, [.loc 0], none, none⟩,
    ⟨.len, [.tmp 0], none, none⟩,
    ⟨.bin .gtr, [.tmp 1, .c (.int .i64 60)], some 13, none⟩])
    (.cond (.loc 13)
      (.seq
      (.region [
    ⟨.call 0, [], none, none⟩,
    ⟨.mov, [.tmp 0], some 1, none⟩])
      .ret)
      .skip))
    (.seq
    (.region [
    ⟨.alloc [.bool false, .int .u64 0, .int .i64 0, .bool false, .int .u64 0, .int .i64 0], [], some 2, none⟩])
    (.seq
    (.region [
    ⟨.mov, [.c (.int .i64 0)], some 3, none⟩])
    (.seq
    (.region [
    ⟨.mov, [.loc 0], none, none⟩,
    ⟨.len, [.tmp 0], none, none⟩,
    ⟨.make 1 8 [.int .i64 0], [.tmp 1, .tmp 1], none, none⟩,
    ⟨.mov, [.tmp 2], some 4, none⟩])
    (.seq
    (.seq
    (.region [
    ⟨.mov, [.c (.int .i64 0)], some 5, none⟩])
    (.block 0
    (.loop
    (.seq
    (.seq
    (.region [
    ⟨.mov, [.loc 5], none, none⟩,
    ⟨.mov, [.loc 0], none, none⟩,
    ⟨.len, [.tmp 1], none, none⟩,
    ⟨.bin .lss, [.tmp 0, .tmp 2], some 14, none⟩])
    (.cond (.loc 14)
      .skip
      (.exit 0)))
    (.seq
    (.block 1
    (.seq
    (.region [
    ⟨.mov, [.loc 3], none, none⟩,
    ⟨.mov, [.loc 0], none, none⟩,
    ⟨.mov, [.loc 5], none, none⟩,
    ⟨.iaddr 5 none, [.tmp 1, .tmp 2], none, none⟩,
    ⟨.faddr 4, [.tmp 3], none, none⟩,
    ⟨.load none, [.tmp 4], none, none⟩,
    ⟨.bin .rem, [.tmp 5, .c (.int .i64 20000000)], none, none⟩,
    ⟨.bin .add, [.tmp 6, .c (.int .i64 20000000)], none, none⟩,
    ⟨.bin .rem, [.tmp 7, .c (.int .i64 20000000)], none, none⟩,
    ⟨.bin .add, [.tmp 0, .tmp 8], none, none⟩,
    ⟨.mov, [.tmp 9], some 3, none⟩])
    (.seq
    (.region [
    ⟨.mov, [.loc 4], none, none⟩,
    ⟨.mov, [.loc 5], none, none⟩,
    ⟨.mov, [.loc 3], none, none⟩,
    ⟨.iaddr 1 none, [.tmp 0, .tmp 1], none, none⟩,
    ⟨.store 1, [.tmp 3, .tmp 2], none, none⟩])
    (.seq
    (.draw [21, 0, 1, 2, 3, 4, 5, 6, 7, 8, 9, 10, 11, 12, 13, 14, 15, 16, 17, 18, 19, 20, 22, 23] 1 [
    ⟨.alloc [.bool false, .int .u64 0, .int .i64 0, .bool false, .int .u64 0, .int .i64 0], [], some 6, none⟩,
    ⟨.load (some 6), [.loc 2], none, none⟩,
    ⟨.mov, [.loc 0], none, none⟩,
    ⟨.mov, [.loc 5], none, none⟩,
    ⟨.iaddr 5 none, [.tmp 2, .tmp 3], none, none⟩,
    ⟨.faddr 1, [.tmp 4], none, none⟩,
    ⟨.load none, [.tmp 5], none, none⟩,
    ⟨.mov, [.loc 0], none, none⟩,
    ⟨.mov, [.loc 5], none, none⟩,
    ⟨.iaddr 5 none, [.tmp 7, .tmp 8], none, none⟩,
    ⟨.faddr 2, [.tmp 9], none, none⟩,
    ⟨.load none, [.tmp 10], none, none⟩,
    ⟨.mov, [.loc 0], none, none⟩,
    ⟨.mov, [.loc 5], none, none⟩,
    ⟨.iaddr 5 none, [.tmp 12, .tmp 13], none, none⟩,
    ⟨.faddr 3, [.tmp 14], none, none⟩,
    ⟨.load none, [.tmp 15], none, none⟩,
    ⟨.mov, [.loc 3], none, none⟩,
    ⟨.call 1, [.tmp 1, .tmp 6, .tmp 11, .tmp 16, .tmp 17], none, none⟩,
    ⟨.mov, [.tmp 18], none, none⟩,
    ⟨.extract 0, [.tmp 19], none, none⟩,
    ⟨.extract 1, [.tmp 19], none, none⟩,
    ⟨.store 6, [.tmp 0, .tmp 20], none, none⟩,
    ⟨.mov, [.tmp 21], some 7, none⟩] [(0, [1, 19])])
    (.seq
    (.region [
    ⟨.load (some 6), [.loc 6], none, none⟩,
    ⟨.store 6, [.loc 2, .tmp 0], none, none⟩])
    (.seq
    (.region [
    ⟨.mov, [.c (.bool false)], some 8, none⟩,
    ⟨.mov, [.c (.bool false)], some 9, none⟩])
    (.seq
    (.region [
    ⟨.mov, [.loc 0], none, none⟩,
    ⟨.mov, [.loc 5], none, none⟩,
    ⟨.iaddr 5 none, [.tmp 0, .tmp 1], none, none⟩,
    ⟨.faddr 1, [.tmp 2], none, none⟩,
    ⟨.load none, [.tmp 3], none, none⟩,
    ⟨.bin .eql, [.tmp 4, .c (.int .i64 2)], none, none⟩,
    ⟨.mov, [.tmp 5], some 10, none⟩])
    (.seq
    (.seq
    (.region [
    ⟨.mov, [.loc 5], none, none⟩,
    ⟨.mov, [.tmp 0], some 11, none⟩])
    (.block 2
    (.loop
    (.seq
    (.seq
    (.region [
    ⟨.mov, [.loc 11], none, none⟩,
    ⟨.bin .geq, [.tmp 0, .c (.int .i64 0)], none, none⟩,
    ⟨.mov, [.tmp 1], none, none⟩,
    ⟨.mov, [.loc 0], none, some (2, true)⟩,
    ⟨.mov, [.loc 11], none, some (2, true)⟩,
    ⟨.iaddr 5 none, [.tmp 3, .tmp 4], none, some (2, true)⟩,
    ⟨.faddr 1, [.tmp 5], none, some (2, true)⟩,
    ⟨.load none, [.tmp 6], none, some (2, true)⟩,
    ⟨.bin .eql, [.tmp 7, .c (.int .i64 1)], none, some (2, true)⟩,
    ⟨.mov, [.tmp 8], none, some (2, true)⟩,
    ⟨.mov, [.loc 0], none, some (9, false)⟩,
    ⟨.mov, [.loc 11], none, some (9, false)⟩,
    ⟨.iaddr 5 none, [.tmp 10, .tmp 11], none, some (9, false)⟩,
    ⟨.faddr 1, [.tmp 12], none, some (9, false)⟩,
    ⟨.load none, [.tmp 13], none, some (9, false)⟩,
    ⟨.bin .eql, [.tmp 14, .c (.int .i64 2)], none, some (9, false)⟩,
    ⟨.pick, [.tmp 9, .c (.bool true), .tmp 15], none, some (2, true)⟩,
    ⟨.pick, [.tmp 2, .tmp 16, .c (.bool false)], some 15, none⟩])
    (.cond (.loc 15)
      .skip
      (.exit 2)))
    (.seq
    (.block 3
    (.seq
    (.region [
    ⟨.mov, [.loc 10], none, none⟩,
    ⟨.mov, [.tmp 0], none, none⟩,
    ⟨.mov, [.loc 0], none, some (1, true)⟩,
    ⟨.mov, [.loc 11], none, some (1, true)⟩,
    ⟨.iaddr 5 none, [.tmp 2, .tmp 3], none, some (1, true)⟩,
    ⟨.faddr 1, [.tmp 4], none, some (1, true)⟩,
    ⟨.load none, [.tmp 5], none, some (1, true)⟩,
    ⟨.bin .eql, [.tmp 6, .c (.int .i64 2)], none, some (1, true)⟩,
    ⟨.pick, [.tmp 1, .tmp 7, .c (.bool false)], none, none⟩,
    ⟨.mov, [.tmp 8], none, none⟩,
    ⟨.mov, [.loc 0], none, some (9, true)⟩,
    ⟨.mov, [.loc 11], none, some (9, true)⟩,
    ⟨.iaddr 5 none, [.tmp 10, .tmp 11], none, some (9, true)⟩,
    ⟨.faddr 3, [.tmp 12], none, some (9, true)⟩,
    ⟨.load none, [.tmp 13], none, some (9, true)⟩,
    ⟨.mov, [.loc 0], none, some (9, true)⟩,
    ⟨.mov, [.loc 5], none, some (9, true)⟩,
    ⟨.iaddr 5 none, [.tmp 15, .tmp 16], none, some (9, true)⟩,
    ⟨.faddr 3, [.tmp 17], none, some (9, true)⟩,
    ⟨.load none, [.tmp 18], none, some (9, true)⟩,
    ⟨.bin .eql, [.tmp 14, .tmp 19], none, some (9, true)⟩,
    ⟨.pick, [.tmp 9, .tmp 20, .c (.bool false)], none, none⟩,
    ⟨.mov, [.tmp 21], some 10, none⟩])
    (.seq
    (.region [
    ⟨.mov, [.loc 9], none, none⟩,
    ⟨.mov, [.tmp 0], none, none⟩,
    ⟨.mov, [.loc 10], none, some (1, false)⟩,
    ⟨.mov, [.tmp 2], none, some (1, false)⟩,
    ⟨.mov, [.loc 3], none, some (3, true)⟩,
    ⟨.mov, [.loc 4], none, some (3, true)⟩,
    ⟨.mov, [.loc 11], none, some (3, true)⟩,
    ⟨.iaddr 1 none, [.tmp 5, .tmp 6], none, some (3, true)⟩,
    ⟨.load none, [.tmp 7], none, some (3, true)⟩,
    ⟨.bin .sub, [.tmp 4, .tmp 8], none, some (3, true)⟩,
    ⟨.bin .geq, [.tmp 9, .c (.int .i64 10000000)], none, some (3, true)⟩,
    ⟨.pick, [.tmp 3, .tmp 10, .c (.bool false)], none, some (1, false)⟩,
    ⟨.pick, [.tmp 1, .c (.bool true), .tmp 11], none, none⟩,
    ⟨.mov, [.tmp 12], some 9, none⟩])
    (.seq
    (.seq
    (.region [
    ⟨.mov, [.loc 0], none, none⟩,
    ⟨.mov, [.loc 11], none, none⟩,
    ⟨.iaddr 5 none, [.tmp 0, .tmp 1], none, none⟩,
    ⟨.faddr 2, [.tmp 2], none, none⟩,
    ⟨.load none, [.tmp 3], none, none⟩,
    ⟨.mov, [.loc 0], none, none⟩,
    ⟨.mov, [.loc 5], none, none⟩,
    ⟨.iaddr 5 none, [.tmp 5, .tmp 6], none, none⟩,
    ⟨.faddr 2, [.tmp 7], none, none⟩,
    ⟨.load none, [.tmp 8], none, none⟩,
    ⟨.bin .neq, [.tmp 4, .tmp 9], none, none⟩,
    ⟨.mov, [.tmp 10], none, none⟩,
    ⟨.mov, [.loc 10], none, some (11, true)⟩,
    ⟨.not, [.tmp 12], none, some (11, true)⟩,
    ⟨.pick, [.tmp 11, .tmp 13, .c (.bool false)], some 16, none⟩])
    (.cond (.loc 16)
      (.exit 2)
      .skip))
    (.region [
    ⟨.mov, [.loc 8], none, none⟩,
    ⟨.mov, [.tmp 0], none, none⟩,
    ⟨.mov, [.loc 0], none, some (1, false)⟩,
    ⟨.mov, [.loc 11], none, some (1, false)⟩,
    ⟨.mov, [.loc 5], none, some (1, false)⟩,
    ⟨.call 2, [.tmp 2, .tmp 3, .tmp 4], none, some (1, false)⟩,
    ⟨.mov, [.tmp 5], none, some (1, false)⟩,
    ⟨.mov, [.loc 3], none, some (6, true)⟩,
    ⟨.mov, [.loc 4], none, some (6, true)⟩,
    ⟨.mov, [.loc 11], none, some (6, true)⟩,
    ⟨.iaddr 1 none, [.tmp 8, .tmp 9], none, some (6, true)⟩,
    ⟨.load none, [.tmp 10], none, some (6, true)⟩,
    ⟨.bin .sub, [.tmp 7, .tmp 11], none, some (6, true)⟩,
    ⟨.bin .geq, [.tmp 12, .c (.int .i64 10000000)], none, some (6, true)⟩,
    ⟨.pick, [.tmp 6, .tmp 13, .c (.bool false)], none, some (1, false)⟩,
    ⟨.pick, [.tmp 1, .c (.bool true), .tmp 14], none, none⟩,
    ⟨.mov, [.tmp 15], some 8, none⟩])))))
    (.region [
    ⟨.mov, [.loc 11], none, none⟩,
    ⟨.bin .sub, [.tmp 0, .c (.int .i64 1)], none, none⟩,
    ⟨.mov, [.tmp 1], some 11, none⟩]))))))
    (.seq
    (.region [
    ⟨.mov, [.c (.int .i64 0)], some 12, none⟩])
    (.seq
    (.seq
    (.region [
    ⟨.mov, [.loc 8], some 17, none⟩])
    (.cond (.loc 17)
      (.region [
    ⟨.mov, [.c (.int .i64 1)], some 12, none⟩])
      .skip))
    (.seq
    (.seq
    (.region [
    ⟨.mov, [.loc 9], some 18, none⟩])
    (.cond (.loc 18)
      (.region [
    ⟨.mov, [.c (.int .i64 2)], some 12, none⟩])
      .skip))
    (.seq
    (.region [
    ⟨.mov, [.loc 7], none, none⟩,
    ⟨.mov, [.loc 12], none, none⟩,
    ⟨.bin .neq, [.tmp 0, .tmp 1], some 19, none⟩])
    (.cond (.loc 19)
      (.seq
      (.region [
    ⟨.mov, [.c (.bool false)], some 1, none⟩])
      .ret)
      .skip)))))))))))))
    (.region [
    ⟨.mov, [.loc 5], none, none⟩,
    ⟨.bin .add, [.tmp 0, .c (.int .i64 1)], none, none⟩,
    ⟨.mov, [.tmp 1], some 5, none⟩]))))))
    (.seq
    (.region [
    ⟨.call 0, [], none, none⟩,
    ⟨.mov, [.tmp 0], some 1, none⟩])
    .ret))))))) }

/-- 8 -/
def law18_SliceNone : AFn := { nloc := 6, npar := 1, res := [.loc 2], body :=
    (.seq
    (.region [
    ⟨.box, [.loc 0], some 1, none⟩,
    ⟨.mov, [.c (.bool false)], some 2, none⟩])
    (.seq
    (.region [
    ⟨.mov, [.c (.nilp)], some 3, none⟩])
    (.seq
    (.region [
    ⟨.mov, [.loc 3], none, none⟩,
    ⟨.faddr 0, [.loc 1], none, none⟩,
    ⟨.load none, [.tmp 1], none, none⟩,
    ⟨.faddr 1, [.loc 1], none, none⟩,
    ⟨.load none, [.tmp 3], none, none⟩,
    ⟨.faddr 2, [.loc 1], none, none⟩,
    ⟨.load none, [.tmp 5], none, none⟩,
    ⟨.faddr 3, [.loc 1], none, none⟩,
    ⟨.load none, [.tmp 7], none, none⟩,
    ⟨.faddr 4, [.loc 1], none, none⟩,
    ⟨.load none, [.tmp 9], none, none⟩,
    ⟨.call 4, [.tmp 0, .tmp 2, .tmp 4, .tmp 6, .tmp 8, .tmp 10], none, none⟩,
    ⟨.mov, [.tmp 11], none, none⟩,
    ⟨.extract 0, [.tmp 12], none, none⟩,
    ⟨.extract 1, [.tmp 12], none, none⟩,
    ⟨.mov, [.tmp 13], some 4, none⟩,
    ⟨.mov, [.tmp 14], some 5, none⟩])
    (.seq
    (.region [
    ⟨.mov, [.loc 4], none, none⟩,
    ⟨.bin .eql, [.tmp 0, .c (.int .i64 0)], none, none⟩,
    ⟨.mov, [.tmp 1], none, none⟩,
    ⟨.mov, [.loc 5], none, some (2, true)⟩,
    ⟨.bin .eql, [.tmp 3, .c (.int .i64 1)], none, some (2, true)⟩,
    ⟨.pick, [.tmp 2, .tmp 4, .c (.bool false)], none, none⟩,
    ⟨.mov, [.tmp 5], none, none⟩,
    ⟨.mov, [.loc 3], none, some (6, true)⟩,
    ⟨.faddr 0, [.loc 1], none, some (6, true)⟩,
    ⟨.load none, [.tmp 8], none, some (6, true)⟩,
    ⟨.call 5, [.tmp 7, .tmp 9], none, some (6, true)⟩,
    ⟨.build [.bool false, .int .u64 0, .int .i64 0, .bool false, .int .u64 0, .int .i64 0] [], [], none, some (6, true)⟩,
    ⟨.eqv (.agg [false, true, true, false, true, true]) false, [.tmp 10, .tmp 11], none, some (6, true)⟩,
    ⟨.pick, [.tmp 6, .tmp 12, .c (.bool false)], none, none⟩,
    ⟨.mov, [.tmp 13], none, none⟩,
    ⟨.mov, [.loc 3], none, some (14, true)⟩,
    ⟨.call 6, [.tmp 15], none, some (14, true)⟩,
    ⟨.bin .eql, [.tmp 16, .c (.int .i64 0)], none, some (14, true)⟩,
    ⟨.pick, [.tmp 14, .tmp 17, .c (.bool false)], none, none⟩,
    ⟨.mov, [.tmp 18], none, none⟩,
    ⟨.mov, [.loc 3], none, some (19, true)⟩,
    ⟨.call 7, [.tmp 20], none, some (19, true)⟩,
    ⟨.eqv .ptr false, [.tmp 21, .c (.nilp)], none, some (19, true)⟩,
    ⟨.pick, [.tmp 19, .tmp 22, .c (.bool false)], none, none⟩,
    ⟨.mov, [.tmp 23], none, none⟩,
    ⟨.call 0, [], none, some (24, true)⟩,
    ⟨.pick, [.tmp 24, .tmp 25, .c (.bool false)], none, none⟩,
    ⟨.mov, [.tmp 26], some 2, none⟩])
    .ret)))) }

/-- 11 -/
def law18_SliceKnown : AFn := { nloc := 9, npar := 0, res := [.loc 0], body :=
    (.seq
    (.region [
    ⟨.mov, [.c (.bool false)], some 0, none⟩])
    (.seq
    (.region [
    ⟨.mov, [.c (.int .i64 1)], some 1, none⟩])
    (.seq
    (.seq
    (.region [
    ⟨.mov, [.c (.int .i64 0)], some 2, none⟩])
    (.block 0
    (.loop
    (.seq
    (.seq
    (.region [
    ⟨.mov, [.loc 2], none, none⟩,
    ⟨.bin .lss, [.tmp 0, .c (.int .i64 80)], some 6, none⟩])
    (.cond (.loc 6)
      .skip
      (.exit 0)))
    (.seq
    (.block 1
    (.seq
    (.region [
    ⟨.mov, [.c (.nils)], some 3, none⟩])
    (.seq
    (.seq
    (.region [
    ⟨.mov, [.c (.int .i64 0)], some 4, none⟩])
    (.block 2
    (.loop
    (.seq
    (.seq
    (.region [
    ⟨.mov, [.loc 4], none, none⟩,
    ⟨.bin .lss, [.tmp 0, .c (.int .i64 60)], some 7, none⟩])
    (.cond (.loc 7)
      .skip
      (.exit 2)))
    (.seq
    (.block 3
    (.seq
    (.region [
    ⟨.mov, [.loc 3], none, none⟩,
    ⟨.mov, [.loc 1], none, none⟩,
    ⟨.bin .quo, [.tmp 1, .c (.int .i64 3)], none, none⟩,
    ⟨.bin .rem, [.tmp 2, .c (.int .i64 10)], none, none⟩,
    ⟨.bin .sub, [.tmp 3, .c (.int .i64 1)], none, none⟩,
    ⟨.lit 9 1 [.int .i64 0] [(0, 1), (1, 1), (2, 1), (3, 1), (4, 1), (5, 1), (6, 1), (7, 1), (8, 1)], [.c (.int .i64 1), .c (.int .i64 2), .c (.int .i64 1), .c (.int .i64 2), .c (.int .i64 1), .c (.int .i64 0), .c (.int .i64 2), .c (.int .i64 3), .c (.int .i64 4)], none, none⟩,
    ⟨.mov, [.loc 1], none, none⟩,
    ⟨.bin .rem, [.tmp 6, .c (.int .i64 9)], none, none⟩,
    ⟨.iaddr 1 none, [.tmp 5, .tmp 7], none, none⟩,
    ⟨.load none, [.tmp 8], none, none⟩,
    ⟨.mov, [.loc 1], none, none⟩,
    ⟨.bin .quo, [.tmp 10, .c (.int .i64 9)], none, none⟩,
    ⟨.bin .rem, [.tmp 11, .c (.int .i64 2)], none, none⟩,
    ⟨.conv .u64, [.tmp 12], none, none⟩,
    ⟨.mov, [.loc 1], none, none⟩,
    ⟨.bin .quo, [.tmp 14, .c (.int .i64 18)], none, none⟩,
    ⟨.bin .rem, [.tmp 15, .c (.int .i64 2)], none, none⟩,
    ⟨.conv .u64, [.tmp 16], none, none⟩,
    ⟨.mov, [.loc 1], none, none⟩,
    ⟨.bin .rem, [.tmp 18, .c (.int .i64 7)], none, none⟩,
    ⟨.bin .mul, [.tmp 19, .c (.int .i64 2500001)], none, none⟩,
    ⟨.build [.int .i64 0, .int .i64 0, .int .u64 0, .int .u64 0, .int .i64 0] [(0, 1), (1, 1), (2, 1), (3, 1), (4, 1)], [.tmp 4, .tmp 9, .tmp 13, .tmp 17, .tmp 20], none, none⟩,
    ⟨.lit 1 5 [.int .i64 0, .int .i64 0, .int .u64 0, .int .u64 0, .int .i64 0] [(0, 5)], [.tmp 21], none, none⟩,
    ⟨.append 5 40, [.tmp 0, .tmp 22], none, none⟩,
    ⟨.mov, [.tmp 23], some 3, none⟩])
    (.region [
    ⟨.mov, [.loc 1], none, none⟩,
    ⟨.bin .mul, [.tmp 0, .c (.int .i64 31)], none, none⟩,
    ⟨.mov, [.loc 4], none, none⟩,
    ⟨.bin .mul, [.c (.int .i64 7), .tmp 2], none, none⟩,
    ⟨.bin .add, [.tmp 1, .tmp 3], none, none⟩,
    ⟨.bin .add, [.tmp 4, .c (.int .i64 11)], none, none⟩,
    ⟨.bin .rem, [.tmp 5, .c (.int .i64 100003)], none, none⟩,
    ⟨.mov, [.tmp 6], some 1, none⟩])))
    (.region [
    ⟨.mov, [.loc 4], none, none⟩,
    ⟨.bin .add, [.tmp 0, .c (.int .i64 1)], none, none⟩,
    ⟨.mov, [.tmp 1], some 4, none⟩]))))))
    (.seq
    (.region [
    ⟨.mov, [.loc 1], none, none⟩,
    ⟨.bin .rem, [.tmp 0, .c (.int .i64 2)], none, none⟩,
    ⟨.bin .eql, [.tmp 1, .c (.int .i64 0)], none, none⟩,
    ⟨.mov, [.loc 1], none, none⟩,
    ⟨.bin .rem, [.tmp 3, .c (.int .i64 3)], none, none⟩,
    ⟨.conv .u64, [.tmp 4], none, none⟩,
    ⟨.mov, [.loc 1], none, none⟩,
    ⟨.bin .rem, [.tmp 6, .c (.int .i64 5)], none, none⟩,
    ⟨.bin .mul, [.tmp 7, .c (.int .i64 4000000)], none, none⟩,
    ⟨.mov, [.loc 1], none, none⟩,
    ⟨.bin .rem, [.tmp 9, .c (.int .i64 3)], none, none⟩,
    ⟨.bin .eql, [.tmp 10, .c (.int .i64 0)], none, none⟩,
    ⟨.mov, [.loc 1], none, none⟩,
    ⟨.bin .rem, [.tmp 12, .c (.int .i64 2)], none, none⟩,
    ⟨.conv .u64, [.tmp 13], none, none⟩,
    ⟨.mov, [.loc 1], none, none⟩,
    ⟨.bin .rem, [.tmp 15, .c (.int .i64 4)], none, none⟩,
    ⟨.bin .mul, [.tmp 16, .c (.int .i64 5000000)], none, none⟩,
    ⟨.build [.bool false, .int .u64 0, .int .i64 0, .bool false, .int .u64 0, .int .i64 0] [(0, 1), (1, 1), (2, 1), (3, 1), (4, 1), (5, 1)], [.tmp 2, .tmp 5, .tmp 8, .tmp 11, .tmp 14, .tmp 17], none, none⟩,
    ⟨.alloc [.bool false, .int .u64 0, .int .i64 0, .bool false, .int .u64 0, .int .i64 0], [], some 5, none⟩,
    ⟨.store 6, [.tmp 19, .tmp 18], none, none⟩])
    (.seq
    (.region [
    ⟨.load (some 6), [.loc 5], none, none⟩,
    ⟨.mov, [.loc 3], none, none⟩,
    ⟨.mov, [.loc 2], none, none⟩,
    ⟨.bin .rem, [.tmp 2, .c (.int .i64 60)], none, none⟩,
    ⟨.iaddr 5 none, [.tmp 1, .tmp 3], none, none⟩,
    ⟨.load (some 5), [.tmp 4], none, none⟩,
    ⟨.mov, [.loc 1], none, none⟩,
    ⟨.bin .rem, [.tmp 6, .c (.int .i64 4)], none, none⟩,
    ⟨.bin .sub, [.tmp 7, .c (.int .i64 1)], none, none⟩,
    ⟨.call 9, [.tmp 0, .tmp 5, .tmp 8], none, none⟩,
    ⟨.not, [.tmp 9], none, none⟩,
    ⟨.mov, [.tmp 10], none, none⟩,
    ⟨.load (some 6), [.loc 5], none, some (11, false)⟩,
    ⟨.faddr 1, [.loc 5], none, some (11, false)⟩,
    ⟨.load none, [.tmp 13], none, some (11, false)⟩,
    ⟨.faddr 4, [.loc 5], none, some (11, false)⟩,
    ⟨.load none, [.tmp 15], none, some (11, false)⟩,
    ⟨.faddr 5, [.loc 5], none, some (11, false)⟩,
    ⟨.load none, [.tmp 17], none, some (11, false)⟩,
    ⟨.bin .add, [.tmp 18, .c (.int .i64 9999999)], none, some (11, false)⟩,
    ⟨.mov, [.loc 2], none, some (11, false)⟩,
    ⟨.bin .rem, [.tmp 20, .c (.int .i64 3)], none, some (11, false)⟩,
    ⟨.bin .add, [.tmp 19, .tmp 21], none, some (11, false)⟩,
    ⟨.build [.int .i64 0, .int .i64 0, .int .u64 0, .int .u64 0, .int .i64 0] [(1, 1), (2, 1), (3, 1), (4, 1)], [.c (.int .i64 2), .tmp 14, .tmp 16, .tmp 22], none, some (11, false)⟩,
    ⟨.call 9, [.tmp 12, .tmp 23, .c (.int .i64 61)], none, some (11, false)⟩,
    ⟨.not, [.tmp 24], none, some (11, false)⟩,
    ⟨.pick, [.tmp 11, .c (.bool true), .tmp 25], none, none⟩,
    ⟨.mov, [.tmp 26], none, none⟩,
    ⟨.mov, [.loc 2], none, some (27, false)⟩,
    ⟨.bin .rem, [.tmp 28, .c (.int .i64 10)], none, some (27, false)⟩,
    ⟨.mov, [.loc 3], none, some (27, false)⟩,
    ⟨.call 10, [.tmp 29, .tmp 30], none, some (27, false)⟩,
    ⟨.not, [.tmp 31], none, some (27, false)⟩,
    ⟨.pick, [.tmp 27, .c (.bool true), .tmp 32], none, none⟩,
    ⟨.mov, [.tmp 33], none, none⟩,
    ⟨.mov, [.loc 3], none, some (34, false)⟩,
    ⟨.call 3, [.tmp 35], none, some (34, false)⟩,
    ⟨.not, [.tmp 36], none, some (34, false)⟩,
    ⟨.pick, [.tmp 34, .c (.bool true), .tmp 37], none, none⟩,
    ⟨.mov, [.tmp 38], none, none⟩,
    ⟨.mov, [.loc 3], none, some (39, false)⟩,
    ⟨.mov, [.loc 2], none, some (39, false)⟩,
    ⟨.bin .rem, [.tmp 41, .c (.int .i64 60)], none, some (39, false)⟩,
    ⟨.slice 5 true false false, [.tmp 40, .tmp 42], none, some (39, false)⟩,
    ⟨.call 3, [.tmp 43], none, some (39, false)⟩,
    ⟨.not, [.tmp 44], none, some (39, false)⟩,
    ⟨.pick, [.tmp 39, .c (.bool true), .tmp 45], none, none⟩,
    ⟨.mov, [.tmp 46], none, none⟩,
    ⟨.mov, [.loc 3], none, some (47, false)⟩,
    ⟨.iaddr 5 none, [.tmp 48, .c (.int .i64 0)], none, some (47, false)⟩,
    ⟨.load (some 5), [.tmp 49], none, some (47, false)⟩,
    ⟨.call 8, [.tmp 50], none, some (47, false)⟩,
    ⟨.not, [.tmp 51], none, some (47, false)⟩,
    ⟨.pick, [.tmp 47, .c (.bool true), .tmp 52], some 8, none⟩])
    (.cond (.loc 8)
      (.seq
      (.region [
    ⟨.mov, [.c (.bool false)], some 0, none⟩])
      .ret)
      .skip))))))
    (.region [
    ⟨.mov, [.loc 2], none, none⟩,
    ⟨.bin .add, [.tmp 0, .c (.int .i64 1)], none, none⟩,
    ⟨.mov, [.tmp 1], some 2, none⟩]))))))
    (.seq
    (.region [
    ⟨.build [.bool false, .int .u64 0, .int .i64 0, .bool false, .int .u64 0, .int .i64 0] [(0, 1), (2, 1)], [.c (.bool true), .c (.int .i64 (-9223372036854775808))], none, none⟩,
    ⟨.build [.int .i64 0, .int .i64 0, .int .u64 0, .int .u64 0, .int .i64 0] [(1, 1), (4, 1)], [.c (.int .i64 1), .c (.int .i64 9223372036854775807)], none, none⟩,
    ⟨.call 9, [.tmp 0, .tmp 1, .c (.int .i64 0)], none, none⟩,
    ⟨.mov, [.tmp 2], none, none⟩,
    ⟨.build [.bool false, .int .u64 0, .int .i64 0, .bool false, .int .u64 0, .int .i64 0] [(0, 1), (2, 1)], [.c (.bool true), .c (.int .i64 5)], none, some (3, true)⟩,
    ⟨.build [.int .i64 0, .int .i64 0, .int .u64 0, .int .u64 0, .int .i64 0] [(1, 1), (4, 1)], [.c (.int .i64 1), .c (.int .i64 (-9223372036854775808))], none, some (3, true)⟩,
    ⟨.call 9, [.tmp 4, .tmp 5, .c (.int .i64 (-1))], none, some (3, true)⟩,
    ⟨.pick, [.tmp 3, .tmp 6, .c (.bool false)], none, none⟩,
    ⟨.mov, [.tmp 7], none, none⟩,
    ⟨.call 0, [], none, some (8, true)⟩,
    ⟨.pick, [.tmp 8, .tmp 9, .c (.bool false)], none, none⟩,
    ⟨.mov, [.tmp 10], some 0, none⟩])
    .ret)))) }

/-- 0 -/
def law18_works : AFn := { nloc := 12, npar := 0, res := [.loc 0], body :=
    (.seq
    (.region [
    ⟨.mov, [.c (.bool false)], some 0, none⟩])
    (.seq
    (.region [
    ⟨.build [.int .i64 0, .int .i64 0, .int .u64 0, .int .u64 0, .int .i64 0] [(1, 1), (2, 1)], [.c (.int .i64 1), .c (.int .u64 5)], none, none⟩,
    ⟨.build [.int .i64 0, .int .i64 0, .int .u64 0, .int .u64 0, .int .i64 0] [(1, 1), (2, 1), (4, 1)], [.c (.int .i64 1), .c (.int .u64 5), .c (.int .i64 9999999)], none, none⟩,
    ⟨.build [.int .i64 0, .int .i64 0, .int .u64 0, .int .u64 0, .int .i64 0] [(1, 1), (2, 1), (4, 1)], [.c (.int .i64 1), .c (.int .u64 5), .c (.int .i64 10000000)], none, none⟩,
    ⟨.build [.int .i64 0, .int .i64 0, .int .u64 0, .int .u64 0, .int .i64 0] [(1, 1), (2, 1), (4, 1)], [.c (.int .i64 1), .c (.int .u64 6), .c (.int .i64 10000001)], none, none⟩,
    ⟨.lit 4 5 [.int .i64 0, .int .i64 0, .int .u64 0, .int .u64 0, .int .i64 0] [(0, 5), (5, 5), (10, 5), (15, 5)], [.tmp 0, .tmp 1, .tmp 2, .tmp 3], none, none⟩,
    ⟨.build [.int .i64 0, .int .i64 0, .int .u64 0, .int .u64 0, .int .i64 0] [(1, 1), (2, 1)], [.c (.int .i64 1), .c (.int .u64 5)], none, none⟩,
    ⟨.build [.int .i64 0, .int .i64 0, .int .u64 0, .int .u64 0, .int .i64 0] [(1, 1), (2, 1), (3, 1), (4, 1)], [.c (.int .i64 2), .c (.int .u64 5), .c (.int .u64 1), .c (.int .i64 9000000)], none, none⟩,
    ⟨.build [.int .i64 0, .int .i64 0, .int .u64 0, .int .u64 0, .int .i64 0] [(1, 1), (2, 1), (3, 1), (4, 1)], [.c (.int .i64 1), .c (.int .u64 5), .c (.int .u64 1), .c (.int .i64 9500000)], none, none⟩,
    ⟨.build [.int .i64 0, .int .i64 0, .int .u64 0, .int .u64 0, .int .i64 0] [(1, 1), (2, 1), (3, 1), (4, 1)], [.c (.int .i64 2), .c (.int .u64 5), .c (.int .u64 2), .c (.int .i64 10000000)], none, none⟩,
    ⟨.build [.int .i64 0, .int .i64 0, .int .u64 0, .int .u64 0, .int .i64 0] [(1, 1), (2, 1), (3, 1), (4, 1)], [.c (.int .i64 2), .c (.int .u64 5), .c (.int .u64 2), .c (.int .i64 20000000)], none, none⟩,
    ⟨.lit 5 5 [.int .i64 0, .int .i64 0, .int .u64 0, .int .u64 0, .int .i64 0] [(0, 5), (5, 5), (10, 5), (15, 5), (20, 5)], [.tmp 5, .tmp 6, .tmp 7, .tmp 8, .tmp 9], none, none⟩,
    ⟨.lit 2 1 [.nils] [(0, 1), (1, 1)], [.tmp 4, .tmp 10], none, none⟩,
    ⟨.mov, [.tmp 11], some 1, none⟩])
    (.seq
    (.region [
    ⟨.lit 4 1 [.int .i64 0] [(0, 1), (1, 1), (2, 1), (3, 1)], [.c (.int .i64 0), .c (.int .i64 0), .c (.int .i64 1), .c (.int .i64 0)], none, none⟩,
    ⟨.lit 5 1 [.int .i64 0] [(0, 1), (1, 1), (2, 1), (3, 1), (4, 1)], [.c (.int .i64 0), .c (.int .i64 0), .c (.int .i64 0), .c (.int .i64 1), .c (.int .i64 2)], none, none⟩,
    ⟨.lit 2 1 [.nils] [(0, 1), (1, 1)], [.tmp 0, .tmp 1], none, none⟩,
    ⟨.mov, [.tmp 2], some 2, none⟩])
    (.seq
    (.seq
    (.region [
    ⟨.mov, [.c (.int .i64 0)], some 3, none⟩])
    (.block 0
    (.loop
    (.seq
    (.seq
    (.region [
    ⟨.mov, [.loc 3], none, none⟩,
    ⟨.bin .lss, [.tmp 0, .c (.int .i64 2)], some 9, none⟩])
    (.cond (.loc 9)
      .skip
      (.exit 0)))
    (.seq
    (.block 1
    (.seq
    (.region [
    ⟨.alloc [.bool false, .int .u64 0, .int .i64 0, .bool false, .int .u64 0, .int .i64 0], [], some 4, none⟩])
    (.seq
    (.region [
    ⟨.mov, [.c (.int .i64 0)], some 5, none⟩])
    (.block 2
    (.loop
    (.seq
    (.seq
    (.region [
    ⟨.mov, [.loc 5], none, none⟩,
    ⟨.mov, [.loc 1], none, none⟩,
    ⟨.mov, [.loc 3], none, none⟩,
    ⟨.iaddr 1 none, [.tmp 1, .tmp 2], none, none⟩,
    ⟨.load none, [.tmp 3], none, none⟩,
    ⟨.len, [.tmp 4], none, none⟩,
    ⟨.bin .lss, [.tmp 0, .tmp 5], some 10, none⟩])
    (.cond (.loc 10)
      .skip
      (.exit 2)))
    (.seq
    (.block 3
    (.seq
    (.region [
    ⟨.mov, [.loc 1], none, none⟩,
    ⟨.mov, [.loc 3], none, none⟩,
    ⟨.iaddr 1 none, [.tmp 0, .tmp 1], none, none⟩,
    ⟨.load none, [.tmp 2], none, none⟩,
    ⟨.mov, [.loc 5], none, none⟩,
    ⟨.iaddr 5 none, [.tmp 3, .tmp 4], none, none⟩,
    ⟨.load (some 5), [.tmp 5], none, none⟩,
    ⟨.alloc [.int .i64 0, .int .i64 0, .int .u64 0, .int .u64 0, .int .i64 0], [], some 6, none⟩,
    ⟨.store 5, [.tmp 7, .tmp 6], none, none⟩])
    (.seq
    (.region [
    ⟨.load (some 6), [.loc 4], none, none⟩,
    ⟨.faddr 1, [.loc 6], none, none⟩,
    ⟨.load none, [.tmp 1], none, none⟩,
    ⟨.faddr 2, [.loc 6], none, none⟩,
    ⟨.load none, [.tmp 3], none, none⟩,
    ⟨.faddr 3, [.loc 6], none, none⟩,
    ⟨.load none, [.tmp 5], none, none⟩,
    ⟨.faddr 4, [.loc 6], none, none⟩,
    ⟨.load none, [.tmp 7], none, none⟩,
    ⟨.call 1, [.tmp 0, .tmp 2, .tmp 4, .tmp 6, .tmp 8], none, none⟩,
    ⟨.mov, [.tmp 9], none, none⟩,
    ⟨.extract 0, [.tmp 10], none, none⟩,
    ⟨.extract 1, [.tmp 10], none, none⟩,
    ⟨.alloc [.bool false, .int .u64 0, .int .i64 0, .bool false, .int .u64 0, .int .i64 0], [], some 7, none⟩,
    ⟨.store 6, [.tmp 13, .tmp 11], none, none⟩,
    ⟨.mov, [.tmp 12], some 8, none⟩])
    (.seq
    (.region [
    ⟨.load (some 6), [.loc 7], none, none⟩,
    ⟨.store 6, [.loc 4, .tmp 0], none, none⟩])
    (.seq
    (.region [
    ⟨.mov, [.loc 8], none, none⟩,
    ⟨.mov, [.loc 2], none, none⟩,
    ⟨.mov, [.loc 3], none, none⟩,
    ⟨.iaddr 1 none, [.tmp 1, .tmp 2], none, none⟩,
    ⟨.load none, [.tmp 3], none, none⟩,
    ⟨.mov, [.loc 5], none, none⟩,
    ⟨.iaddr 1 none, [.tmp 4, .tmp 5], none, none⟩,
    ⟨.load none, [.tmp 6], none, none⟩,
    ⟨.bin .neq, [.tmp 0, .tmp 7], some 11, none⟩])
    (.cond (.loc 11)
      (.seq
      (.region [
    ⟨.mov, [.c (.bool false)], some 0, none⟩])
      .ret)
      .skip))))))
    (.region [
    ⟨.mov, [.loc 5], none, none⟩,
    ⟨.bin .add, [.tmp 0, .c (.int .i64 1)], none, none⟩,
    ⟨.mov, [.tmp 1], some 5, none⟩]))))))))
    (.region [
    ⟨.mov, [.loc 3], none, none⟩,
    ⟨.bin .add, [.tmp 0, .c (.int .i64 1)], none, none⟩,
    ⟨.mov, [.tmp 1], some 3, none⟩]))))))
    (.seq
    (.region [
    ⟨.call 12, [.c (.int .u64 122), .c (.int .i64 61)], none, none⟩,
    ⟨.mov, [.tmp 0], none, none⟩,
    ⟨.call 12, [.c (.int .u64 123), .c (.int .i64 61)], none, some (1, true)⟩,
    ⟨.not, [.tmp 2], none, some (1, true)⟩,
    ⟨.pick, [.tmp 1, .tmp 3, .c (.bool false)], none, none⟩,
    ⟨.mov, [.tmp 4], none, none⟩,
    ⟨.call 12, [.c (.int .u64 0), .c (.int .i64 2)], none, some (5, true)⟩,
    ⟨.pick, [.tmp 5, .tmp 6, .c (.bool false)], none, none⟩,
    ⟨.mov, [.tmp 7], some 0, none⟩])
    .ret))))) }

/-- 1 -/
def slice_Look : AFn := { nloc := 17, npar := 5, res := [.cell 7 (some 6), .loc 8], body :=
    (.seq
    (.region [
    ⟨.box, [.loc 0], some 5, none⟩,
    ⟨.box, [.loc 4], some 6, none⟩,
    ⟨.alloc [.bool false, .int .u64 0, .int .i64 0, .bool false, .int .u64 0, .int .i64 0], [], some 7, none⟩,
    ⟨.mov, [.c (.int .i64 0)], some 8, none⟩])
    (.seq
    (.seq
    (.region [
    ⟨.mov, [.loc 1], none, none⟩,
    ⟨.bin .neq, [.tmp 0, .c (.int .i64 1)], none, none⟩,
    ⟨.mov, [.tmp 1], none, none⟩,
    ⟨.mov, [.loc 1], none, some (2, true)⟩,
    ⟨.bin .neq, [.tmp 3, .c (.int .i64 2)], none, some (2, true)⟩,
    ⟨.pick, [.tmp 2, .tmp 4, .c (.bool false)], some 13, none⟩])
    (.cond (.loc 13)
      (.seq
      (.region [
    ⟨.build [.bool false, .int .u64 0, .int .i64 0, .bool false, .int .u64 0, .int .i64 0] [], [], none, none⟩,
    ⟨.store 6, [.loc 7, .tmp 0], none, none⟩,
    ⟨.mov, [.c (.int .i64 0)], some 8, none⟩])
      .ret)
      .skip))
    (.seq
    (.region [
    ⟨.faddr 0, [.loc 5], none, none⟩,
    ⟨.load none, [.tmp 0], none, none⟩,
    ⟨.faddr 1, [.loc 5], none, none⟩,
    ⟨.load none, [.tmp 2], none, none⟩,
    ⟨.faddr 2, [.loc 5], none, none⟩,
    ⟨.load none, [.tmp 4], none, none⟩,
    ⟨.build [.bool false, .int .u64 0, .int .i64 0] [(0, 1), (1, 1), (2, 1)], [.tmp 1, .tmp 3, .tmp 5], none, none⟩,
    ⟨.mov, [.loc 2], none, none⟩,
    ⟨.load none, [.loc 6], none, none⟩,
    ⟨.call 13, [.tmp 6, .tmp 7, .tmp 8], none, none⟩,
    ⟨.alloc [.bool false, .int .u64 0, .int .i64 0], [], some 9, none⟩,
    ⟨.store 3, [.tmp 10, .tmp 9], none, none⟩])
    (.seq
    (.region [
    ⟨.alloc [.bool false, .int .u64 0, .int .i64 0], [], some 10, none⟩])
    (.seq
    (.seq
    (.region [
    ⟨.mov, [.loc 1], none, none⟩,
    ⟨.bin .eql, [.tmp 0, .c (.int .i64 2)], some 14, none⟩])
    (.cond (.loc 14)
      (.region [
    ⟨.faddr 3, [.loc 5], none, none⟩,
    ⟨.load none, [.tmp 0], none, none⟩,
    ⟨.faddr 4, [.loc 5], none, none⟩,
    ⟨.load none, [.tmp 2], none, none⟩,
    ⟨.faddr 5, [.loc 5], none, none⟩,
    ⟨.load none, [.tmp 4], none, none⟩,
    ⟨.build [.bool false, .int .u64 0, .int .i64 0] [(0, 1), (1, 1), (2, 1)], [.tmp 1, .tmp 3, .tmp 5], none, none⟩,
    ⟨.mov, [.loc 3], none, none⟩,
    ⟨.load none, [.loc 6], none, none⟩,
    ⟨.call 13, [.tmp 6, .tmp 7, .tmp 8], none, none⟩,
    ⟨.store 3, [.loc 10, .tmp 9], none, none⟩])
      .skip))
    (.seq
    (.region [
    ⟨.mkfn 14 0, [.loc 6], none, none⟩,
    ⟨.mov, [.tmp 0], some 11, none⟩])
    (.seq
    (.region [
    ⟨.mov, [.c (.int .i64 0)], some 12, none⟩])
    (.seq
    (.block 0
    (.seq
    (.region [
    ⟨.mov, [.loc 11], none, none⟩,
    ⟨.load (some 3), [.loc 10], none, none⟩,
    ⟨.callv, [.tmp 0, .tmp 1], none, none⟩,
    ⟨.mov, [.tmp 2], some 15, none⟩])
    (.cond (.loc 15)
      (.region [
    ⟨.mov, [.c (.int .i64 2)], some 12, none⟩])
      (.seq
      (.region [
    ⟨.mov, [.loc 11], none, none⟩,
    ⟨.load (some 3), [.loc 9], none, none⟩,
    ⟨.callv, [.tmp 0, .tmp 1], none, none⟩,
    ⟨.mov, [.tmp 2], some 16, none⟩])
      (.cond (.loc 16)
        (.region [
    ⟨.mov, [.c (.int .i64 1)], some 12, none⟩])
        .skip)))))
    (.seq
    (.region [
    ⟨.faddr 0, [.loc 9], none, none⟩,
    ⟨.load none, [.tmp 0], none, none⟩,
    ⟨.faddr 1, [.loc 9], none, none⟩,
    ⟨.load none, [.tmp 2], none, none⟩,
    ⟨.faddr 2, [.loc 9], none, none⟩,
    ⟨.load none, [.tmp 4], none, none⟩,
    ⟨.faddr 0, [.loc 10], none, none⟩,
    ⟨.load none, [.tmp 6], none, none⟩,
    ⟨.faddr 1, [.loc 10], none, none⟩,
    ⟨.load none, [.tmp 8], none, none⟩,
    ⟨.faddr 2, [.loc 10], none, none⟩,
    ⟨.load none, [.tmp 10], none, none⟩,
    ⟨.build [.bool false, .int .u64 0, .int .i64 0, .bool false, .int .u64 0, .int .i64 0] [(0, 1), (1, 1), (2, 1), (3, 1), (4, 1), (5, 1)], [.tmp 1, .tmp 3, .tmp 5, .tmp 7, .tmp 9, .tmp 11], none, none⟩,
    ⟨.mov, [.loc 12], none, none⟩,
    ⟨.store 6, [.loc 7, .tmp 12], none, none⟩,
    ⟨.mov, [.tmp 13], some 8, none⟩])
    .ret))))))))) }

/-- 2 -/
def law18_same : AFn := { nloc := 7, npar := 3, res := [.loc 3], body :=
    (.seq
    (.region [
    ⟨.mov, [.c (.bool false)], some 3, none⟩])
    (.seq
    (.seq
    (.region [
    ⟨.mov, [.loc 1], none, none⟩,
    ⟨.mov, [.tmp 0], some 4, none⟩])
    (.block 0
    (.loop
    (.seq
    (.seq
    (.region [
    ⟨.mov, [.loc 4], none, none⟩,
    ⟨.mov, [.loc 2], none, none⟩,
    ⟨.bin .leq, [.tmp 0, .tmp 1], some 5, none⟩])
    (.cond (.loc 5)
      .skip
      (.exit 0)))
    (.seq
    (.block 1
    (.seq
    (.region [
    ⟨.mov, [.loc 0], none, none⟩,
    ⟨.mov, [.loc 4], none, none⟩,
    ⟨.iaddr 5 none, [.tmp 0, .tmp 1], none, none⟩,
    ⟨.faddr 2, [.tmp 2], none, none⟩,
    ⟨.load none, [.tmp 3], none, none⟩,
    ⟨.mov, [.loc 0], none, none⟩,
    ⟨.mov, [.loc 2], none, none⟩,
    ⟨.iaddr 5 none, [.tmp 5, .tmp 6], none, none⟩,
    ⟨.faddr 2, [.tmp 7], none, none⟩,
    ⟨.load none, [.tmp 8], none, none⟩,
    ⟨.bin .neq, [.tmp 4, .tmp 9], some 6, none⟩])
    (.cond (.loc 6)
      (.seq
      (.region [
    ⟨.mov, [.c (.bool false)], some 3, none⟩])
      .ret)
      .skip)))
    (.region [
    ⟨.mov, [.loc 4], none, none⟩,
    ⟨.bin .add, [.tmp 0, .c (.int .i64 1)], none, none⟩,
    ⟨.mov, [.tmp 1], some 4, none⟩]))))))
    (.seq
    (.region [
    ⟨.mov, [.c (.bool true)], some 3, none⟩])
    .ret))) }

/-- 4 -/
def slice_Watch_Look : AFn := { nloc := 10, npar := 6, res := [.loc 6, .loc 7], body :=
    (.seq
    (.region [
    ⟨.mov, [.c (.int .i64 0)], some 6, none⟩,
    ⟨.mov, [.c (.int .i64 0)], some 7, none⟩])
    (.seq
    (.block 0
    (.seq
    (.region [
    ⟨.mov, [.loc 0], none, none⟩,
    ⟨.eqv .ptr false, [.tmp 0, .c (.nilp)], none, none⟩,
    ⟨.mov, [.tmp 1], some 8, none⟩])
    (.cond (.loc 8)
      (.seq
      (.region [
    ⟨.mov, [.c (.int .i64 0)], some 6, none⟩,
    ⟨.mov, [.c (.int .i64 1)], some 7, none⟩])
      .ret)
      (.seq
      (.region [
    ⟨.mov, [.loc 0], none, none⟩,
    ⟨.mov, [.loc 1], none, none⟩,
    ⟨.call 15, [.tmp 0, .tmp 1], none, none⟩,
    ⟨.not, [.tmp 2], none, none⟩,
    ⟨.mov, [.tmp 3], some 9, none⟩])
      (.cond (.loc 9)
        (.seq
        (.region [
    ⟨.mov, [.c (.int .i64 0)], some 6, none⟩,
    ⟨.mov, [.c (.int .i64 2)], some 7, none⟩])
        .ret)
        .skip)))))
    (.seq
    (.region [
    ⟨.mov, [.loc 0], none, none⟩,
    ⟨.mov, [.loc 1], none, none⟩,
    ⟨.mov, [.loc 0], none, none⟩,
    ⟨.mov, [.loc 1], none, none⟩,
    ⟨.nilc, [.tmp 2], none, none⟩,
    ⟨.faddr 1, [.tmp 4], none, none⟩,
    ⟨.iaddr 6 (some 8), [.tmp 5, .tmp 3], none, none⟩,
    ⟨.load (some 6), [.tmp 6], none, none⟩,
    ⟨.mov, [.loc 2], none, none⟩,
    ⟨.mov, [.loc 3], none, none⟩,
    ⟨.mov, [.loc 4], none, none⟩,
    ⟨.mov, [.loc 5], none, none⟩,
    ⟨.call 1, [.tmp 7, .tmp 8, .tmp 9, .tmp 10, .tmp 11], none, none⟩,
    ⟨.mov, [.tmp 12], none, none⟩,
    ⟨.extract 0, [.tmp 13], none, none⟩,
    ⟨.extract 1, [.tmp 13], none, none⟩,
    ⟨.nilc, [.tmp 0], none, none⟩,
    ⟨.faddr 1, [.tmp 16], none, none⟩,
    ⟨.iaddr 6 (some 8), [.tmp 17, .tmp 1], none, none⟩,
    ⟨.store 6, [.tmp 18, .tmp 14], none, none⟩,
    ⟨.mov, [.tmp 15], some 6, none⟩])
    (.seq
    (.region [
    ⟨.mov, [.loc 6], none, none⟩,
    ⟨.mov, [.tmp 0], some 6, none⟩,
    ⟨.mov, [.c (.int .i64 0)], some 7, none⟩])
    .ret)))) }

/-- 5 -/
def slice_Watch_Seen : AFn := { nloc := 4, npar := 2, res := [.cell 2 (some 6)], body :=
    (.seq
    (.region [
    ⟨.alloc [.bool false, .int .u64 0, .int .i64 0, .bool false, .int .u64 0, .int .i64 0], [], some 2, none⟩])
    (.seq
    (.seq
    (.region [
    ⟨.mov, [.loc 0], none, none⟩,
    ⟨.mov, [.loc 1], none, none⟩,
    ⟨.call 15, [.tmp 0, .tmp 1], none, none⟩,
    ⟨.not, [.tmp 2], some 3, none⟩])
    (.cond (.loc 3)
      (.seq
      (.region [
    ⟨.build [.bool false, .int .u64 0, .int .i64 0, .bool false, .int .u64 0, .int .i64 0] [], [], none, none⟩,
    ⟨.store 6, [.loc 2, .tmp 0], none, none⟩])
      .ret)
      .skip))
    (.seq
    (.region [
    ⟨.mov, [.loc 0], none, none⟩,
    ⟨.mov, [.loc 1], none, none⟩,
    ⟨.nilc, [.tmp 0], none, none⟩,
    ⟨.faddr 1, [.tmp 2], none, none⟩,
    ⟨.iaddr 6 (some 8), [.tmp 3, .tmp 1], none, none⟩,
    ⟨.load (some 6), [.tmp 4], none, none⟩,
    ⟨.store 6, [.loc 2, .tmp 5], none, none⟩])
    .ret))) }

/-- 6 -/
def slice_Watch_Len : AFn := { nloc := 3, npar := 1, res := [.loc 1], body :=
    (.seq
    (.region [
    ⟨.mov, [.c (.int .i64 0)], some 1, none⟩])
    (.seq
    (.seq
    (.region [
    ⟨.mov, [.loc 0], none, none⟩,
    ⟨.eqv .ptr false, [.tmp 0, .c (.nilp)], some 2, none⟩])
    (.cond (.loc 2)
      (.seq
      (.region [
    ⟨.mov, [.c (.int .i64 0)], some 1, none⟩])
      .ret)
      .skip))
    (.seq
    (.region [
    ⟨.mov, [.loc 0], none, none⟩,
    ⟨.nilc, [.tmp 0], none, none⟩,
    ⟨.faddr 0, [.tmp 1], none, none⟩,
    ⟨.load none, [.tmp 2], none, none⟩,
    ⟨.mov, [.tmp 3], some 1, none⟩])
    .ret))) }

/-- 7 -/
def slice_Watch_Copy : AFn := { nloc := 4, npar := 1, res := [.loc 1], body :=
    (.seq
    (.region [
    ⟨.mov, [.c (.nilp)], some 1, none⟩])
    (.seq
    (.seq
    (.region [
    ⟨.mov, [.loc 0], none, none⟩,
    ⟨.eqv .ptr false, [.tmp 0, .c (.nilp)], some 3, none⟩])
    (.cond (.loc 3)
      (.seq
      (.region [
    ⟨.mov, [.c (.nilp)], some 1, none⟩])
      .ret)
      .skip))
    (.seq
    (.region [
    ⟨.mov, [.loc 0], none, none⟩,
    ⟨.nilc, [.tmp 0], none, none⟩,
    ⟨.load (some 49), [.tmp 1], none, none⟩,
    ⟨.alloc [.int .i64 0, .bool false, .int .u64 0, .int .i64 0, .bool false, .int .u64 0, .int .i64 0, .bool false, .int .u64 0, .int .i64 0, .bool false, .int .u64 0, .int .i64 0, .bool false, .int .u64 0, .int .i64 0, .bool false, .int .u64 0, .int .i64 0, .bool false, .int .u64 0, .int .i64 0, .bool false, .int .u64 0, .int .i64 0, .bool false, .int .u64 0, .int .i64 0, .bool false, .int .u64 0, .int .i64 0, .bool false, .int .u64 0, .int .i64 0, .bool false, .int .u64 0, .int .i64 0, .bool false, .int .u64 0, .int .i64 0, .bool false, .int .u64 0, .int .i64 0, .bool false, .int .u64 0, .int .i64 0, .bool false, .int .u64 0, .int .i64 0], [], some 2, none⟩,
    ⟨.store 49, [.tmp 3, .tmp 2], none, none⟩])
    (.seq
    (.region [
    ⟨.mov, [.loc 2], some 1, none⟩])
    .ret)))) }

/-- 9 -/
def law18_SliceLooks : AFn := { nloc := 10, npar := 3, res := [.loc 5], body :=
    (.seq
    (.region [
    ⟨.box, [.loc 0], some 3, none⟩,
    ⟨.box, [.loc 1], some 4, none⟩,
    ⟨.mov, [.c (.bool false)], some 5, none⟩])
    (.seq
    (.region [
    ⟨.load (some 6), [.loc 3], none, none⟩,
    ⟨.faddr 1, [.loc 4], none, none⟩,
    ⟨.load none, [.tmp 1], none, none⟩,
    ⟨.faddr 2, [.loc 4], none, none⟩,
    ⟨.load none, [.tmp 3], none, none⟩,
    ⟨.faddr 3, [.loc 4], none, none⟩,
    ⟨.load none, [.tmp 5], none, none⟩,
    ⟨.faddr 4, [.loc 4], none, none⟩,
    ⟨.load none, [.tmp 7], none, none⟩,
    ⟨.call 1, [.tmp 0, .tmp 2, .tmp 4, .tmp 6, .tmp 8], none, none⟩,
    ⟨.mov, [.tmp 9], none, none⟩,
    ⟨.extract 0, [.tmp 10], none, none⟩,
    ⟨.extract 1, [.tmp 10], none, none⟩,
    ⟨.alloc [.bool false, .int .u64 0, .int .i64 0, .bool false, .int .u64 0, .int .i64 0], [], some 6, none⟩,
    ⟨.store 6, [.tmp 13, .tmp 11], none, none⟩,
    ⟨.mov, [.tmp 12], some 7, none⟩])
    (.seq
    (.draw [14, 0, 1, 2, 3, 4, 5, 6, 7, 8, 9, 10, 11, 12, 13, 15, 16] 1 [
    ⟨.alloc [.bool false, .int .u64 0, .int .i64 0, .bool false, .int .u64 0, .int .i64 0], [], some 8, none⟩,
    ⟨.load (some 6), [.loc 3], none, none⟩,
    ⟨.call 16, [.tmp 1], none, none⟩,
    ⟨.faddr 1, [.loc 4], none, none⟩,
    ⟨.load none, [.tmp 3], none, none⟩,
    ⟨.faddr 2, [.loc 4], none, none⟩,
    ⟨.load none, [.tmp 5], none, none⟩,
    ⟨.faddr 3, [.loc 4], none, none⟩,
    ⟨.load none, [.tmp 7], none, none⟩,
    ⟨.faddr 4, [.loc 4], none, none⟩,
    ⟨.load none, [.tmp 9], none, none⟩,
    ⟨.call 17, [.tmp 2, .tmp 4, .tmp 6, .tmp 8, .tmp 10], none, none⟩,
    ⟨.mov, [.tmp 11], none, none⟩,
    ⟨.extract 0, [.tmp 12], none, none⟩,
    ⟨.extract 1, [.tmp 12], none, none⟩,
    ⟨.store 6, [.tmp 0, .tmp 13], none, none⟩,
    ⟨.mov, [.tmp 14], some 9, none⟩] [(0, [1, 3, 12]), (4, [1]), (6, [1]), (8, [1]), (10, [1])])
    (.seq
    (.draw [0, 1, 2, 3, 4, 5, 6, 7, 8, 9, 10, 11, 12, 13, 14, 15, 16, 17, 18, 19, 20, 21, 22, 23] 0 [
    ⟨.load (some 6), [.loc 6], none, none⟩,
    ⟨.call 16, [.tmp 0], none, none⟩,
    ⟨.load (some 6), [.loc 8], none, none⟩,
    ⟨.eqv (.agg [false, true, true, false, true, true]) false, [.tmp 1, .tmp 2], none, none⟩,
    ⟨.mov, [.tmp 3], none, none⟩,
    ⟨.mov, [.loc 7], none, some (4, true)⟩,
    ⟨.mov, [.loc 9], none, some (4, true)⟩,
    ⟨.bin .eql, [.tmp 5, .tmp 6], none, some (4, true)⟩,
    ⟨.pick, [.tmp 4, .tmp 7, .c (.bool false)], none, none⟩,
    ⟨.mov, [.tmp 8], none, none⟩,
    ⟨.faddr 2, [.loc 4], none, some (9, true)⟩,
    ⟨.load none, [.tmp 10], none, some (9, true)⟩,
    ⟨.mov, [.loc 2], none, some (9, true)⟩,
    ⟨.call 12, [.tmp 11, .tmp 12], none, some (9, true)⟩,
    ⟨.faddr 2, [.loc 4], none, some (9, true)⟩,
    ⟨.load none, [.tmp 14], none, some (9, true)⟩,
    ⟨.mov, [.loc 2], none, some (9, true)⟩,
    ⟨.call 18, [.tmp 15, .tmp 16], none, some (9, true)⟩,
    ⟨.eqv .bool false, [.tmp 13, .tmp 17], none, some (9, true)⟩,
    ⟨.pick, [.tmp 9, .tmp 18, .c (.bool false)], none, none⟩,
    ⟨.mov, [.tmp 19], none, none⟩,
    ⟨.call 0, [], none, some (20, true)⟩,
    ⟨.pick, [.tmp 20, .tmp 21, .c (.bool false)], none, none⟩,
    ⟨.mov, [.tmp 22], some 5, none⟩] [(2, [0]), (15, [2])])
    .ret)))) }

/-- 10 -/
def law18_SliceWatches : AFn := { nloc := 24, npar := 2, res := [.loc 2], body :=
    (.seq
    (.region [
    ⟨.mov, [.c (.bool false)], some 2, none⟩])
    (.seq
    (.seq
    (.region [
    ⟨.mov, [.loc 1], none, none⟩,
    ⟨.len, [.tmp 0], none, none⟩,
    ⟨.bin .gtr, [.tmp 1, .c (.int .i64 100)], some 15, none⟩])
    (.cond (.loc 15)
      (.seq
      (.region [
    ⟨.call 0, [], none, none⟩,
    ⟨.mov, [.tmp 0], some 2, none⟩])
      .ret)
      .skip))
    (.seq
    (.region [
    ⟨.mov, [.loc 0], none, none⟩,
    ⟨.call 19, [.tmp 0], none, none⟩,
    ⟨.mov, [.tmp 1], none, none⟩,
    ⟨.extract 0, [.tmp 2], none, none⟩,
    ⟨.extract 1, [.tmp 2], none, none⟩,
    ⟨.mov, [.tmp 3], some 3, none⟩,
    ⟨.mov, [.tmp 4], some 4, none⟩])
    (.seq
    (.seq
    (.region [
    ⟨.mov, [.loc 0], none, none⟩,
    ⟨.bin .lss, [.tmp 0, .c (.int .i64 1)], none, none⟩,
    ⟨.mov, [.tmp 1], none, none⟩,
    ⟨.mov, [.loc 0], none, some (2, false)⟩,
    ⟨.bin .gtr, [.tmp 3, .c (.int .i64 8)], none, some (2, false)⟩,
    ⟨.pick, [.tmp 2, .c (.bool true), .tmp 4], some 16, none⟩])
    (.cond (.loc 16)
      (.seq
      (.region [
    ⟨.mov, [.loc 3], none, none⟩,
    ⟨.eqv .ptr false, [.tmp 0, .c (.nilp)], none, none⟩,
    ⟨.mov, [.tmp 1], none, none⟩,
    ⟨.mov, [.loc 4], none, some (2, true)⟩,
    ⟨.bin .eql, [.tmp 3, .c (.int .i64 2)], none, some (2, true)⟩,
    ⟨.pick, [.tmp 2, .tmp 4, .c (.bool false)], none, none⟩,
    ⟨.mov, [.tmp 5], none, none⟩,
    ⟨.call 0, [], none, some (6, true)⟩,
    ⟨.pick, [.tmp 6, .tmp 7, .c (.bool false)], none, none⟩,
    ⟨.mov, [.tmp 8], some 2, none⟩])
      .ret)
      .skip))
    (.seq
    (.seq
    (.region [
    ⟨.mov, [.loc 4], none, none⟩,
    ⟨.bin .neq, [.tmp 0, .c (.int .i64 0)], none, none⟩,
    ⟨.mov, [.tmp 1], none, none⟩,
    ⟨.mov, [.loc 3], none, some (2, false)⟩,
    ⟨.call 6, [.tmp 3], none, some (2, false)⟩,
    ⟨.mov, [.loc 0], none, some (2, false)⟩,
    ⟨.bin .neq, [.tmp 4, .tmp 5], none, some (2, false)⟩,
    ⟨.pick, [.tmp 2, .c (.bool true), .tmp 6], some 17, none⟩])
    (.cond (.loc 17)
      (.seq
      (.region [
    ⟨.mov, [.c (.bool false)], some 2, none⟩])
      .ret)
      .skip))
    (.seq
    (.region [
    ⟨.mov, [.loc 0], none, none⟩,
    ⟨.make 6 48 [.bool false, .int .u64 0, .int .i64 0, .bool false, .int .u64 0, .int .i64 0], [.tmp 0, .tmp 0], none, none⟩,
    ⟨.mov, [.tmp 1], some 5, none⟩])
    (.seq
    (.seq
    (.region [
    ⟨.mov, [.c (.int .i64 0)], some 6, none⟩])
    (.block 0
    (.loop
    (.seq
    (.seq
    (.region [
    ⟨.mov, [.loc 6], none, none⟩,
    ⟨.mov, [.loc 1], none, none⟩,
    ⟨.len, [.tmp 1], none, none⟩,
    ⟨.bin .lss, [.tmp 0, .tmp 2], some 18, none⟩])
    (.cond (.loc 18)
      .skip
      (.exit 0)))
    (.seq
    (.block 1
    (.seq
    (.region [
    ⟨.mov, [.loc 1], none, none⟩,
    ⟨.mov, [.loc 6], none, none⟩,
    ⟨.iaddr 5 none, [.tmp 0, .tmp 1], none, none⟩,
    ⟨.load (some 5), [.tmp 2], none, none⟩,
    ⟨.alloc [.int .i64 0, .int .i64 0, .int .u64 0, .int .u64 0, .int .i64 0], [], some 7, none⟩,
    ⟨.store 5, [.tmp 4, .tmp 3], none, none⟩])
    (.seq
    (.region [
    ⟨.mov, [.loc 3], none, none⟩,
    ⟨.call 7, [.tmp 0], none, none⟩,
    ⟨.mov, [.tmp 1], some 8, none⟩])
    (.seq
    (.region [
    ⟨.mov, [.loc 3], none, none⟩,
    ⟨.faddr 0, [.loc 7], none, none⟩,
    ⟨.load none, [.tmp 1], none, none⟩,
    ⟨.faddr 1, [.loc 7], none, none⟩,
    ⟨.load none, [.tmp 3], none, none⟩,
    ⟨.faddr 2, [.loc 7], none, none⟩,
    ⟨.load none, [.tmp 5], none, none⟩,
    ⟨.faddr 3, [.loc 7], none, none⟩,
    ⟨.load none, [.tmp 7], none, none⟩,
    ⟨.faddr 4, [.loc 7], none, none⟩,
    ⟨.load none, [.tmp 9], none, none⟩,
    ⟨.call 4, [.tmp 0, .tmp 2, .tmp 4, .tmp 6, .tmp 8, .tmp 10], none, none⟩,
    ⟨.mov, [.tmp 11], none, none⟩,
    ⟨.extract 0, [.tmp 12], none, none⟩,
    ⟨.extract 1, [.tmp 12], none, none⟩,
    ⟨.mov, [.tmp 13], some 9, none⟩,
    ⟨.mov, [.tmp 14], some 10, none⟩])
    (.seq
    (.seq
    (.region [
    ⟨.faddr 0, [.loc 7], none, none⟩,
    ⟨.load none, [.tmp 0], none, none⟩,
    ⟨.bin .lss, [.tmp 1, .c (.int .i64 0)], none, none⟩,
    ⟨.mov, [.tmp 2], none, none⟩,
    ⟨.faddr 0, [.loc 7], none, some (3, false)⟩,
    ⟨.load none, [.tmp 4], none, some (3, false)⟩,
    ⟨.mov, [.loc 0], none, some (3, false)⟩,
    ⟨.bin .geq, [.tmp 5, .tmp 6], none, some (3, false)⟩,
    ⟨.pick, [.tmp 3, .c (.bool true), .tmp 7], some 19, none⟩])
    (.cond (.loc 19)
      (.seq
      (.seq
      (.region [
    ⟨.mov, [.loc 9], none, none⟩,
    ⟨.bin .neq, [.tmp 0, .c (.int .i64 0)], none, none⟩,
    ⟨.mov, [.tmp 1], none, none⟩,
    ⟨.mov, [.loc 10], none, some (2, false)⟩,
    ⟨.bin .neq, [.tmp 3, .c (.int .i64 2)], none, some (2, false)⟩,
    ⟨.pick, [.tmp 2, .c (.bool true), .tmp 4], none, none⟩,
    ⟨.mov, [.tmp 5], none, none⟩,
    ⟨.mov, [.loc 3], none, some (6, false)⟩,
    ⟨.faddr 0, [.loc 7], none, some (6, false)⟩,
    ⟨.load none, [.tmp 8], none, some (6, false)⟩,
    ⟨.call 5, [.tmp 7, .tmp 9], none, some (6, false)⟩,
    ⟨.build [.bool false, .int .u64 0, .int .i64 0, .bool false, .int .u64 0, .int .i64 0] [], [], none, some (6, false)⟩,
    ⟨.eqv (.agg [false, true, true, false, true, true]) true, [.tmp 10, .tmp 11], none, some (6, false)⟩,
    ⟨.pick, [.tmp 6, .c (.bool true), .tmp 12], some 20, none⟩])
      (.cond (.loc 20)
        (.seq
        (.region [
    ⟨.mov, [.c (.bool false)], some 2, none⟩])
        .ret)
        .skip))
      (.exit 1))
      .skip))
    (.seq
    (.region [
    ⟨.mov, [.loc 5], none, none⟩,
    ⟨.faddr 0, [.loc 7], none, none⟩,
    ⟨.load none, [.tmp 1], none, none⟩,
    ⟨.iaddr 6 none, [.tmp 0, .tmp 2], none, none⟩,
    ⟨.load (some 6), [.tmp 3], none, none⟩,
    ⟨.alloc [.bool false, .int .u64 0, .int .i64 0, .bool false, .int .u64 0, .int .i64 0], [], some 11, none⟩,
    ⟨.store 6, [.tmp 5, .tmp 4], none, none⟩])
    (.seq
    (.region [
    ⟨.load (some 6), [.loc 11], none, none⟩,
    ⟨.faddr 1, [.loc 7], none, none⟩,
    ⟨.load none, [.tmp 1], none, none⟩,
    ⟨.faddr 2, [.loc 7], none, none⟩,
    ⟨.load none, [.tmp 3], none, none⟩,
    ⟨.faddr 3, [.loc 7], none, none⟩,
    ⟨.load none, [.tmp 5], none, none⟩,
    ⟨.faddr 4, [.loc 7], none, none⟩,
    ⟨.load none, [.tmp 7], none, none⟩,
    ⟨.call 17, [.tmp 0, .tmp 2, .tmp 4, .tmp 6, .tmp 8], none, none⟩,
    ⟨.mov, [.tmp 9], none, none⟩,
    ⟨.extract 0, [.tmp 10], none, none⟩,
    ⟨.extract 1, [.tmp 10], none, none⟩,
    ⟨.alloc [.bool false, .int .u64 0, .int .i64 0, .bool false, .int .u64 0, .int .i64 0], [], some 12, none⟩,
    ⟨.store 6, [.tmp 13, .tmp 11], none, none⟩,
    ⟨.mov, [.tmp 12], some 13, none⟩])
    (.seq
    (.region [
    ⟨.mov, [.loc 5], none, none⟩,
    ⟨.faddr 0, [.loc 7], none, none⟩,
    ⟨.load none, [.tmp 1], none, none⟩,
    ⟨.load (some 6), [.loc 12], none, none⟩,
    ⟨.iaddr 6 none, [.tmp 0, .tmp 2], none, none⟩,
    ⟨.store 6, [.tmp 4, .tmp 3], none, none⟩])
    (.seq
    (.seq
    (.draw [0, 1, 2, 3, 4, 5, 6, 7, 8, 9, 10, 11, 12, 13, 14, 15, 16, 17, 18, 19, 20, 21] 0 [
    ⟨.mov, [.loc 10], none, none⟩,
    ⟨.bin .neq, [.tmp 0, .c (.int .i64 0)], none, none⟩,
    ⟨.mov, [.tmp 1], none, none⟩,
    ⟨.mov, [.loc 9], none, some (2, false)⟩,
    ⟨.mov, [.loc 13], none, some (2, false)⟩,
    ⟨.bin .neq, [.tmp 3, .tmp 4], none, some (2, false)⟩,
    ⟨.pick, [.tmp 2, .c (.bool true), .tmp 5], none, none⟩,
    ⟨.mov, [.tmp 6], none, none⟩,
    ⟨.mov, [.loc 8], none, some (7, false)⟩,
    ⟨.faddr 0, [.loc 7], none, some (7, false)⟩,
    ⟨.load none, [.tmp 9], none, some (7, false)⟩,
    ⟨.call 5, [.tmp 8, .tmp 10], none, some (7, false)⟩,
    ⟨.call 16, [.tmp 11], none, some (7, false)⟩,
    ⟨.load (some 6), [.loc 11], none, some (7, false)⟩,
    ⟨.eqv (.agg [false, true, true, false, true, true]) true, [.tmp 12, .tmp 13], none, some (7, false)⟩,
    ⟨.pick, [.tmp 7, .c (.bool true), .tmp 14], none, none⟩,
    ⟨.mov, [.tmp 15], none, none⟩,
    ⟨.mov, [.loc 8], none, some (16, false)⟩,
    ⟨.call 6, [.tmp 17], none, some (16, false)⟩,
    ⟨.mov, [.loc 0], none, some (16, false)⟩,
    ⟨.bin .neq, [.tmp 18, .tmp 19], none, some (16, false)⟩,
    ⟨.pick, [.tmp 16, .c (.bool true), .tmp 20], some 21, none⟩] [(13, [0, 12])])
    (.cond (.loc 21)
      (.seq
      (.region [
    ⟨.mov, [.c (.bool false)], some 2, none⟩])
      .ret)
      .skip))
    (.seq
    (.region [
    ⟨.mov, [.c (.int .i64 0)], some 14, none⟩])
    (.block 2
    (.loop
    (.seq
    (.seq
    (.region [
    ⟨.mov, [.loc 14], none, none⟩,
    ⟨.mov, [.loc 0], none, none⟩,
    ⟨.bin .lss, [.tmp 0, .tmp 1], some 22, none⟩])
    (.cond (.loc 22)
      .skip
      (.exit 2)))
    (.seq
    (.block 3
    (.seq
    (.draw [0, 1, 2, 3, 4, 5, 6, 7, 8] 0 [
    ⟨.mov, [.loc 3], none, none⟩,
    ⟨.mov, [.loc 14], none, none⟩,
    ⟨.call 5, [.tmp 0, .tmp 1], none, none⟩,
    ⟨.call 16, [.tmp 2], none, none⟩,
    ⟨.mov, [.loc 5], none, none⟩,
    ⟨.mov, [.loc 14], none, none⟩,
    ⟨.iaddr 6 none, [.tmp 4, .tmp 5], none, none⟩,
    ⟨.load (some 6), [.tmp 6], none, none⟩,
    ⟨.eqv (.agg [false, true, true, false, true, true]) true, [.tmp 3, .tmp 7], some 23, none⟩] [(7, [0, 3])])
    (.cond (.loc 23)
      (.seq
      (.region [
    ⟨.mov, [.c (.bool false)], some 2, none⟩])
      .ret)
      .skip)))
    (.region [
    ⟨.mov, [.loc 14], none, none⟩,
    ⟨.bin .add, [.tmp 0, .c (.int .i64 1)], none, none⟩,
    ⟨.mov, [.tmp 1], some 14, none⟩])))))))))))))))
    (.region [
    ⟨.mov, [.loc 6], none, none⟩,
    ⟨.bin .add, [.tmp 0, .c (.int .i64 1)], none, none⟩,
    ⟨.mov, [.tmp 1], some 6, none⟩]))))))
    (.seq
    (.region [
    ⟨.call 0, [], none, none⟩,
    ⟨.mov, [.tmp 0], some 2, none⟩])
    .ret)))))))) }

/-- 12 -/
def slice_Poll : AFn := { nloc := 3, npar := 2, res := [.loc 2], body :=
    (.seq
    (.region [
    ⟨.mov, [.c (.bool false)], some 2, none⟩])
    (.seq
    (.region [
    ⟨.mov, [.loc 1], none, none⟩,
    ⟨.bin .gtr, [.tmp 0, .c (.int .i64 0)], none, none⟩,
    ⟨.mov, [.tmp 1], none, none⟩,
    ⟨.mov, [.loc 0], none, some (2, true)⟩,
    ⟨.mov, [.loc 1], none, some (2, true)⟩,
    ⟨.conv .u64, [.tmp 4], none, some (2, true)⟩,
    ⟨.bin .rem, [.tmp 3, .tmp 5], none, some (2, true)⟩,
    ⟨.bin .eql, [.tmp 6, .c (.int .u64 0)], none, some (2, true)⟩,
    ⟨.pick, [.tmp 2, .tmp 7, .c (.bool false)], none, none⟩,
    ⟨.mov, [.tmp 8], some 2, none⟩])
    .ret)) }

/-- 13 -/
def slice_count_next : AFn := { nloc := 6, npar := 3, res := [.cell 4 (some 3)], body :=
    (.seq
    (.region [
    ⟨.box, [.loc 0], some 3, none⟩,
    ⟨.alloc [.bool false, .int .u64 0, .int .i64 0], [], some 4, none⟩])
    (.seq
    (.seq
    (.region [
    ⟨.load (some 3), [.loc 3], none, none⟩,
    ⟨.mov, [.loc 1], none, none⟩,
    ⟨.faddr 2, [.loc 3], none, none⟩,
    ⟨.load none, [.tmp 2], none, none⟩,
    ⟨.build [.bool false, .int .u64 0, .int .i64 0] [(0, 1), (1, 1), (2, 1)], [.c (.bool true), .tmp 1, .tmp 3], none, none⟩,
    ⟨.eqv (.agg [false, true, true]) false, [.tmp 0, .tmp 4], some 5, none⟩])
    (.cond (.loc 5)
      (.seq
      (.region [
    ⟨.load (some 3), [.loc 3], none, none⟩,
    ⟨.store 3, [.loc 4, .tmp 0], none, none⟩])
      .ret)
      .skip))
    (.seq
    (.region [
    ⟨.mov, [.loc 1], none, none⟩,
    ⟨.mov, [.loc 2], none, none⟩,
    ⟨.build [.bool false, .int .u64 0, .int .i64 0] [(0, 1), (1, 1), (2, 1)], [.c (.bool true), .tmp 0, .tmp 1], none, none⟩,
    ⟨.store 3, [.loc 4, .tmp 2], none, none⟩])
    .ret))) }

/-- 14 -/
def slice_Look_1 : AFn := { nloc := 4, npar := 2, res := [.loc 3], body :=
    (.seq
    (.region [
    ⟨.box, [.loc 0], some 2, none⟩,
    ⟨.mov, [.c (.bool false)], some 3, none⟩])
    (.seq
    (.region [
    ⟨.faddr 0, [.loc 2], none, none⟩,
    ⟨.load none, [.tmp 0], none, none⟩,
    ⟨.mov, [.tmp 1], none, none⟩,
    ⟨.load none, [.loc 1], none, some (2, true)⟩,
    ⟨.max, [.c (.int .i64 0), .tmp 3], none, some (2, true)⟩,
    ⟨.faddr 2, [.loc 2], none, some (2, true)⟩,
    ⟨.load none, [.tmp 5], none, some (2, true)⟩,
    ⟨.max, [.c (.int .i64 0), .tmp 6], none, some (2, true)⟩,
    ⟨.bin .sub, [.tmp 4, .tmp 7], none, some (2, true)⟩,
    ⟨.bin .geq, [.tmp 8, .c (.int .i64 10000000)], none, some (2, true)⟩,
    ⟨.pick, [.tmp 2, .tmp 9, .c (.bool false)], none, none⟩,
    ⟨.mov, [.tmp 10], some 3, none⟩])
    .ret)) }

/-- 15 -/
def slice_Watch_there : AFn := { nloc := 3, npar := 2, res := [.loc 2], body :=
    (.seq
    (.region [
    ⟨.mov, [.c (.bool false)], some 2, none⟩])
    (.seq
    (.region [
    ⟨.mov, [.loc 0], none, none⟩,
    ⟨.eqv .ptr true, [.tmp 0, .c (.nilp)], none, none⟩,
    ⟨.mov, [.tmp 1], none, none⟩,
    ⟨.mov, [.loc 1], none, some (2, true)⟩,
    ⟨.bin .geq, [.tmp 3, .c (.int .i64 0)], none, some (2, true)⟩,
    ⟨.pick, [.tmp 2, .tmp 4, .c (.bool false)], none, none⟩,
    ⟨.mov, [.tmp 5], none, none⟩,
    ⟨.mov, [.loc 1], none, some (6, true)⟩,
    ⟨.mov, [.loc 0], none, some (6, true)⟩,
    ⟨.nilc, [.tmp 8], none, some (6, true)⟩,
    ⟨.faddr 0, [.tmp 9], none, some (6, true)⟩,
    ⟨.load none, [.tmp 10], none, some (6, true)⟩,
    ⟨.bin .lss, [.tmp 7, .tmp 11], none, some (6, true)⟩,
    ⟨.pick, [.tmp 6, .tmp 12, .c (.bool false)], none, none⟩,
    ⟨.mov, [.tmp 13], some 2, none⟩])
    .ret)) }

/-- 17 -/
def ref18_Look : AFn := { nloc := 14, npar := 5, res := [.cell 6 (some 6), .loc 7], body :=
    (.seq
    (.region [
    ⟨.box, [.loc 0], some 5, none⟩,
    ⟨.alloc [.bool false, .int .u64 0, .int .i64 0, .bool false, .int .u64 0, .int .i64 0], [], some 6, none⟩,
    ⟨.mov, [.c (.int .i64 0)], some 7, none⟩])
    (.seq
    (.seq
    (.region [
    ⟨.mov, [.loc 1], none, none⟩,
    ⟨.bin .neq, [.tmp 0, .c (.int .i64 1)], none, none⟩,
    ⟨.mov, [.tmp 1], none, none⟩,
    ⟨.mov, [.loc 1], none, some (2, true)⟩,
    ⟨.bin .neq, [.tmp 3, .c (.int .i64 2)], none, some (2, true)⟩,
    ⟨.pick, [.tmp 2, .tmp 4, .c (.bool false)], some 8, none⟩])
    (.cond (.loc 8)
      (.seq
      (.region [
    ⟨.build [.bool false, .int .u64 0, .int .i64 0, .bool false, .int .u64 0, .int .i64 0] [], [], none, none⟩,
    ⟨.store 6, [.loc 6, .tmp 0], none, none⟩,
    ⟨.mov, [.c (.int .i64 0)], some 7, none⟩])
      .ret)
      .skip))
    (.seq
    (.seq
    (.region [
    ⟨.faddr 0, [.loc 5], none, none⟩,
    ⟨.load none, [.tmp 0], none, none⟩,
    ⟨.not, [.tmp 1], none, none⟩,
    ⟨.mov, [.tmp 2], none, none⟩,
    ⟨.faddr 1, [.loc 5], none, some (3, false)⟩,
    ⟨.load none, [.tmp 4], none, some (3, false)⟩,
    ⟨.mov, [.loc 2], none, some (3, false)⟩,
    ⟨.bin .neq, [.tmp 5, .tmp 6], none, some (3, false)⟩,
    ⟨.pick, [.tmp 3, .c (.bool true), .tmp 7], some 9, none⟩])
    (.cond (.loc 9)
      (.seq
      (.region [
    ⟨.mov, [.loc 2], none, none⟩,
    ⟨.faddr 1, [.loc 5], none, none⟩,
    ⟨.store 1, [.tmp 1, .tmp 0], none, none⟩])
      (.region [
    ⟨.mov, [.loc 4], none, none⟩,
    ⟨.faddr 2, [.loc 5], none, none⟩,
    ⟨.store 1, [.tmp 1, .tmp 0], none, none⟩]))
      .skip))
    (.seq
    (.region [
    ⟨.faddr 0, [.loc 5], none, none⟩,
    ⟨.store 1, [.tmp 0, .c (.bool true)], none, none⟩])
    (.seq
    (.seq
    (.region [
    ⟨.mov, [.loc 1], none, none⟩,
    ⟨.bin .eql, [.tmp 0, .c (.int .i64 1)], some 10, none⟩])
    (.cond (.loc 10)
      (.seq
      (.region [
    ⟨.faddr 3, [.loc 5], none, none⟩,
    ⟨.store 1, [.tmp 0, .c (.bool false)], none, none⟩])
      (.seq
      (.region [
    ⟨.faddr 4, [.loc 5], none, none⟩,
    ⟨.store 1, [.tmp 0, .c (.int .u64 0)], none, none⟩])
      (.region [
    ⟨.faddr 5, [.loc 5], none, none⟩,
    ⟨.store 1, [.tmp 0, .c (.int .i64 0)], none, none⟩])))
      .skip))
    (.seq
    (.seq
    (.region [
    ⟨.mov, [.loc 1], none, none⟩,
    ⟨.bin .eql, [.tmp 0, .c (.int .i64 2)], none, none⟩,
    ⟨.mov, [.tmp 1], none, none⟩,
    ⟨.faddr 3, [.loc 5], none, some (2, true)⟩,
    ⟨.load none, [.tmp 3], none, some (2, true)⟩,
    ⟨.not, [.tmp 4], none, some (2, true)⟩,
    ⟨.mov, [.tmp 5], none, some (2, true)⟩,
    ⟨.faddr 4, [.loc 5], none, some (6, false)⟩,
    ⟨.load none, [.tmp 7], none, some (6, false)⟩,
    ⟨.mov, [.loc 3], none, some (6, false)⟩,
    ⟨.bin .neq, [.tmp 8, .tmp 9], none, some (6, false)⟩,
    ⟨.pick, [.tmp 6, .c (.bool true), .tmp 10], none, some (2, true)⟩,
    ⟨.pick, [.tmp 2, .tmp 11, .c (.bool false)], some 11, none⟩])
    (.cond (.loc 11)
      (.seq
      (.region [
    ⟨.faddr 3, [.loc 5], none, none⟩,
    ⟨.store 1, [.tmp 0, .c (.bool true)], none, none⟩])
      (.seq
      (.region [
    ⟨.mov, [.loc 3], none, none⟩,
    ⟨.faddr 4, [.loc 5], none, none⟩,
    ⟨.store 1, [.tmp 1, .tmp 0], none, none⟩])
      (.region [
    ⟨.mov, [.loc 4], none, none⟩,
    ⟨.faddr 5, [.loc 5], none, none⟩,
    ⟨.store 1, [.tmp 1, .tmp 0], none, none⟩])))
      .skip))
    (.seq
    (.seq
    (.region [
    ⟨.mov, [.loc 1], none, none⟩,
    ⟨.bin .eql, [.tmp 0, .c (.int .i64 2)], none, none⟩,
    ⟨.mov, [.tmp 1], none, none⟩,
    ⟨.mov, [.loc 4], none, some (2, true)⟩,
    ⟨.faddr 5, [.loc 5], none, some (2, true)⟩,
    ⟨.load none, [.tmp 4], none, some (2, true)⟩,
    ⟨.call 20, [.tmp 3, .tmp 5], none, some (2, true)⟩,
    ⟨.pick, [.tmp 2, .tmp 6, .c (.bool false)], some 12, none⟩])
    (.cond (.loc 12)
      (.seq
      (.region [
    ⟨.load (some 6), [.loc 5], none, none⟩,
    ⟨.store 6, [.loc 6, .tmp 0], none, none⟩,
    ⟨.mov, [.c (.int .i64 2)], some 7, none⟩])
      .ret)
      .skip))
    (.seq
    (.seq
    (.region [
    ⟨.mov, [.loc 4], none, none⟩,
    ⟨.faddr 2, [.loc 5], none, none⟩,
    ⟨.load none, [.tmp 1], none, none⟩,
    ⟨.call 20, [.tmp 0, .tmp 2], some 13, none⟩])
    (.cond (.loc 13)
      (.seq
      (.region [
    ⟨.load (some 6), [.loc 5], none, none⟩,
    ⟨.store 6, [.loc 6, .tmp 0], none, none⟩,
    ⟨.mov, [.c (.int .i64 1)], some 7, none⟩])
      .ret)
      .skip))
    (.seq
    (.region [
    ⟨.load (some 6), [.loc 5], none, none⟩,
    ⟨.store 6, [.loc 6, .tmp 0], none, none⟩,
    ⟨.mov, [.c (.int .i64 0)], some 7, none⟩])
    .ret))))))))) }

/-- 16 -/
def law18_seen : AFn := { nloc := 3, npar := 1, res := [.cell 2 (some 6)], body :=
    (.seq
    (.region [
    ⟨.box, [.loc 0], some 1, none⟩,
    ⟨.alloc [.bool false, .int .u64 0, .int .i64 0, .bool false, .int .u64 0, .int .i64 0], [], some 2, none⟩])
    (.seq
    (.region [
    ⟨.faddr 0, [.loc 1], none, none⟩,
    ⟨.load none, [.tmp 0], none, none⟩,
    ⟨.faddr 1, [.loc 1], none, none⟩,
    ⟨.load none, [.tmp 2], none, none⟩,
    ⟨.faddr 2, [.loc 1], none, none⟩,
    ⟨.load none, [.tmp 4], none, none⟩,
    ⟨.faddr 3, [.loc 1], none, none⟩,
    ⟨.load none, [.tmp 6], none, none⟩,
    ⟨.faddr 4, [.loc 1], none, none⟩,
    ⟨.load none, [.tmp 8], none, none⟩,
    ⟨.faddr 5, [.loc 1], none, none⟩,
    ⟨.load none, [.tmp 10], none, none⟩,
    ⟨.build [.bool false, .int .u64 0, .int .i64 0, .bool false, .int .u64 0, .int .i64 0] [(0, 1), (1, 1), (2, 1), (3, 1), (4, 1), (5, 1)], [.tmp 1, .tmp 3, .tmp 5, .tmp 7, .tmp 9, .tmp 11], none, none⟩,
    ⟨.store 6, [.loc 2, .tmp 12], none, none⟩])
    .ret)) }

/-- 18 -/
def ref18_Poll : AFn := { nloc := 3, npar := 2, res := [.loc 2], body :=
    (.seq
    (.region [
    ⟨.mov, [.c (.bool false)], some 2, none⟩])
    (.seq
    (.region [
    ⟨.mov, [.loc 1], none, none⟩,
    ⟨.bin .gtr, [.tmp 0, .c (.int .i64 0)], none, none⟩,
    ⟨.mov, [.tmp 1], none, none⟩,
    ⟨.mov, [.loc 0], none, some (2, true)⟩,
    ⟨.mov, [.loc 1], none, some (2, true)⟩,
    ⟨.conv .u64, [.tmp 4], none, some (2, true)⟩,
    ⟨.bin .rem, [.tmp 3, .tmp 5], none, some (2, true)⟩,
    ⟨.bin .eql, [.tmp 6, .c (.int .u64 0)], none, some (2, true)⟩,
    ⟨.pick, [.tmp 2, .tmp 7, .c (.bool false)], none, none⟩,
    ⟨.mov, [.tmp 8], some 2, none⟩])
    .ret)) }

/-- 19 -/
def slice_New : AFn := { nloc := 4, npar := 1, res := [.loc 1, .loc 2], body :=
    (.seq
    (.region [
    ⟨.mov, [.c (.nilp)], some 1, none⟩,
    ⟨.mov, [.c (.int .i64 0)], some 2, none⟩])
    (.seq
    (.seq
    (.region [
    ⟨.mov, [.loc 0], none, none⟩,
    ⟨.bin .lss, [.tmp 0, .c (.int .i64 1)], none, none⟩,
    ⟨.mov, [.tmp 1], none, none⟩,
    ⟨.mov, [.loc 0], none, some (2, false)⟩,
    ⟨.bin .gtr, [.tmp 3, .c (.int .i64 8)], none, some (2, false)⟩,
    ⟨.pick, [.tmp 2, .c (.bool true), .tmp 4], some 3, none⟩])
    (.cond (.loc 3)
      (.seq
      (.region [
    ⟨.mov, [.c (.nilp)], some 1, none⟩,
    ⟨.mov, [.c (.int .i64 2)], some 2, none⟩])
      .ret)
      .skip))
    (.seq
    (.region [
    ⟨.mov, [.loc 0], none, none⟩,
    ⟨.build [.int .i64 0, .bool false, .int .u64 0, .int .i64 0, .bool false, .int .u64 0, .int .i64 0, .bool false, .int .u64 0, .int .i64 0, .bool false, .int .u64 0, .int .i64 0, .bool false, .int .u64 0, .int .i64 0, .bool false, .int .u64 0, .int .i64 0, .bool false, .int .u64 0, .int .i64 0, .bool false, .int .u64 0, .int .i64 0, .bool false, .int .u64 0, .int .i64 0, .bool false, .int .u64 0, .int .i64 0, .bool false, .int .u64 0, .int .i64 0, .bool false, .int .u64 0, .int .i64 0, .bool false, .int .u64 0, .int .i64 0, .bool false, .int .u64 0, .int .i64 0, .bool false, .int .u64 0, .int .i64 0, .bool false, .int .u64 0, .int .i64 0] [(0, 1)], [.tmp 0], none, none⟩,
    ⟨.box, [.tmp 1], none, none⟩,
    ⟨.mov, [.tmp 2], some 1, none⟩,
    ⟨.mov, [.c (.int .i64 0)], some 2, none⟩])
    .ret))) }

/-- 20 -/
def ref18_old : AFn := { nloc := 3, npar := 2, res := [.loc 2], body :=
    (.seq
    (.region [
    ⟨.mov, [.c (.bool false)], some 2, none⟩])
    (.seq
    (.region [
    ⟨.mov, [.loc 0], none, none⟩,
    ⟨.max, [.c (.int .i64 0), .tmp 0], none, none⟩,
    ⟨.mov, [.loc 1], none, none⟩,
    ⟨.max, [.c (.int .i64 0), .tmp 2], none, none⟩,
    ⟨.bin .sub, [.tmp 1, .tmp 3], none, none⟩,
    ⟨.bin .geq, [.tmp 4, .c (.int .i64 10000000)], none, none⟩,
    ⟨.mov, [.tmp 5], some 2, none⟩])
    .ret)) }

end Go.Am.F18
