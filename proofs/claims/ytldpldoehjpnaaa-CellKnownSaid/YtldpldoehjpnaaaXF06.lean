/- The abstract readings of the functions, printed by gen.py. -/
import Derived.Test.YtldpldoehjpnaaaXAmDef
set_option linter.unusedSimpArgs false
set_option linter.unusedVariables false
namespace Go.Am.F06
set_option maxRecDepth 10000

/-- 26 -/
def law06_CellTwice : AFn := { nloc := 11, npar := 4, res := [.loc 4], body :=
    (.seq
    (.region [
    ⟨.mov, [.c (.bool false)], some 4, none⟩])
    (.seq
    (.region [
    ⟨.call 21, [.c (.int .i64 1)], none, none⟩,
    ⟨.mov, [.tmp 0], some 5, none⟩])
    (.seq
    (.region [
    ⟨.mov, [.loc 5], none, none⟩,
    ⟨.mov, [.loc 0], none, none⟩,
    ⟨.call 22, [.tmp 0, .c (.int .i64 0), .tmp 1], none, none⟩])
    (.seq
    (.region [
    ⟨.mov, [.loc 5], none, none⟩,
    ⟨.mov, [.loc 1], none, none⟩,
    ⟨.mov, [.loc 2], none, none⟩,
    ⟨.call 23, [.tmp 0, .c (.int .i64 0), .tmp 1, .tmp 2], none, none⟩,
    ⟨.mov, [.tmp 3], some 6, none⟩])
    (.seq
    (.region [
    ⟨.mov, [.loc 5], none, none⟩,
    ⟨.mov, [.loc 1], none, none⟩,
    ⟨.mov, [.loc 3], none, none⟩,
    ⟨.call 23, [.tmp 0, .c (.int .i64 0), .tmp 1, .tmp 2], none, none⟩,
    ⟨.mov, [.tmp 3], some 7, none⟩])
    (.seq
    (.region [
    ⟨.mov, [.loc 0], none, none⟩,
    ⟨.mov, [.tmp 0], some 8, none⟩])
    (.seq
    (.seq
    (.region [
    ⟨.mov, [.loc 0], none, none⟩,
    ⟨.mov, [.loc 1], none, none⟩,
    ⟨.bin .eql, [.tmp 0, .tmp 1], some 9, none⟩])
    (.cond (.loc 9)
      (.seq
      (.region [
    ⟨.mov, [.loc 2], none, none⟩,
    ⟨.mov, [.tmp 0], some 8, none⟩])
      (.seq
      (.region [
    ⟨.mov, [.loc 2], none, none⟩,
    ⟨.mov, [.loc 1], none, none⟩,
    ⟨.bin .eql, [.tmp 0, .tmp 1], some 10, none⟩])
      (.cond (.loc 10)
        (.region [
    ⟨.mov, [.loc 3], none, none⟩,
    ⟨.mov, [.tmp 0], some 8, none⟩])
        .skip)))
      .skip))
    (.seq
    (.region [
    ⟨.mov, [.loc 6], none, none⟩,
    ⟨.mov, [.loc 0], none, none⟩,
    ⟨.mov, [.loc 1], none, none⟩,
    ⟨.bin .eql, [.tmp 1, .tmp 2], none, none⟩,
    ⟨.eqv .bool false, [.tmp 0, .tmp 3], none, none⟩,
    ⟨.mov, [.tmp 4], none, none⟩,
    ⟨.mov, [.loc 7], none, some (5, true)⟩,
    ⟨.mov, [.loc 0], none, some (5, true)⟩,
    ⟨.mov, [.loc 1], none, some (5, true)⟩,
    ⟨.bin .eql, [.tmp 7, .tmp 8], none, some (5, true)⟩,
    ⟨.mov, [.tmp 9], none, some (5, true)⟩,
    ⟨.mov, [.loc 2], none, some (10, true)⟩,
    ⟨.mov, [.loc 1], none, some (10, true)⟩,
    ⟨.bin .eql, [.tmp 11, .tmp 12], none, some (10, true)⟩,
    ⟨.pick, [.tmp 10, .tmp 13, .c (.bool false)], none, some (5, true)⟩,
    ⟨.eqv .bool false, [.tmp 6, .tmp 14], none, some (5, true)⟩,
    ⟨.pick, [.tmp 5, .tmp 15, .c (.bool false)], none, none⟩,
    ⟨.mov, [.tmp 16], none, none⟩,
    ⟨.mov, [.loc 5], none, some (17, true)⟩,
    ⟨.call 24, [.tmp 18, .c (.int .i64 0)], none, some (17, true)⟩,
    ⟨.mov, [.loc 8], none, some (17, true)⟩,
    ⟨.bin .eql, [.tmp 19, .tmp 20], none, some (17, true)⟩,
    ⟨.pick, [.tmp 17, .tmp 21, .c (.bool false)], none, none⟩,
    ⟨.mov, [.tmp 22], none, none⟩,
    ⟨.call 25, [], none, some (23, true)⟩,
    ⟨.pick, [.tmp 23, .tmp 24, .c (.bool false)], none, none⟩,
    ⟨.mov, [.tmp 25], some 4, none⟩])
    .ret)))))))) }

/-- 33 -/
def law06_CellRedoes : AFn := { nloc := 14, npar := 3, res := [.loc 3], body :=
    (.seq
    (.region [
    ⟨.mov, [.c (.bool false)], some 3, none⟩])
    (.seq
    (.seq
    (.region [
    ⟨.mov, [.loc 1], none, none⟩,
    ⟨.len, [.tmp 0], none, none⟩,
    ⟨.bin .gtr, [.tmp 1, .c (.int .i64 40)], none, none⟩,
    ⟨.mov, [.tmp 2], none, none⟩,
    ⟨.mov, [.loc 2], none, some (3, false)⟩,
    ⟨.len, [.tmp 4], none, some (3, false)⟩,
    ⟨.bin .gtr, [.tmp 5, .c (.int .i64 40)], none, some (3, false)⟩,
    ⟨.pick, [.tmp 3, .c (.bool true), .tmp 6], none, none⟩,
    ⟨.mov, [.tmp 7], none, none⟩,
    ⟨.mov, [.loc 0], none, some (8, false)⟩,
    ⟨.bin .gtr, [.tmp 9, .c (.int .i64 40)], none, some (8, false)⟩,
    ⟨.pick, [.tmp 8, .c (.bool true), .tmp 10], some 11, none⟩])
    (.cond (.loc 11)
      (.seq
      (.region [
    ⟨.call 25, [], none, none⟩,
    ⟨.mov, [.tmp 0], some 3, none⟩])
      .ret)
      .skip))
    (.seq
    (.region [
    ⟨.mov, [.loc 0], none, none⟩,
    ⟨.call 21, [.tmp 0], none, none⟩,
    ⟨.mov, [.loc 0], none, none⟩,
    ⟨.call 27, [.tmp 2], none, none⟩,
    ⟨.alloc [.int .i64 0, .nils], [], some 5, none⟩,
    ⟨.mov, [.tmp 1], some 4, none⟩,
    ⟨.store 2, [.tmp 4, .tmp 3], none, none⟩])
    (.seq
    (.seq
    (.region [
    ⟨.mov, [.c (.int .i64 0)], some 6, none⟩])
    (.block 0
    (.loop
    (.seq
    (.seq
    (.region [
    ⟨.mov, [.loc 6], none, none⟩,
    ⟨.mov, [.loc 1], none, none⟩,
    ⟨.len, [.tmp 1], none, none⟩,
    ⟨.bin .lss, [.tmp 0, .tmp 2], some 12, none⟩])
    (.cond (.loc 12)
      .skip
      (.exit 0)))
    (.seq
    (.block 1
    (.seq
    (.draw [10, 0, 1, 2, 3, 4, 5, 6, 7, 8, 9, 11, 12] 1 [
    ⟨.alloc [.int .i64 0, .nils], [], some 7, none⟩,
    ⟨.mov, [.loc 4], none, none⟩,
    ⟨.load (some 2), [.loc 5], none, none⟩,
    ⟨.mov, [.loc 1], none, none⟩,
    ⟨.mov, [.loc 6], none, none⟩,
    ⟨.iaddr 4 none, [.tmp 3, .tmp 4], none, none⟩,
    ⟨.load (some 4), [.tmp 5], none, none⟩,
    ⟨.call 28, [.tmp 1, .tmp 2, .tmp 6], none, none⟩,
    ⟨.mov, [.tmp 7], none, none⟩,
    ⟨.extract 0, [.tmp 8], none, none⟩,
    ⟨.extract 1, [.tmp 8], none, none⟩,
    ⟨.store 2, [.tmp 0, .tmp 9], none, none⟩,
    ⟨.mov, [.tmp 10], some 8, none⟩] [(0, [1, 8])])
    (.seq
    (.region [
    ⟨.load (some 2), [.loc 7], none, none⟩,
    ⟨.store 2, [.loc 5, .tmp 0], none, none⟩])
    (.seq
    (.region [
    ⟨.mov, [.loc 8], none, none⟩,
    ⟨.not, [.tmp 0], some 13, none⟩])
    (.cond (.loc 13)
      (.seq
      (.region [
    ⟨.mov, [.c (.bool false)], some 3, none⟩])
      .ret)
      .skip)))))
    (.region [
    ⟨.mov, [.loc 6], none, none⟩,
    ⟨.bin .add, [.tmp 0, .c (.int .i64 1)], none, none⟩,
    ⟨.mov, [.tmp 1], some 6, none⟩]))))))
    (.seq
    (.draw [7, 0, 1, 2, 3, 4, 5, 6, 8, 9] 1 [
    ⟨.alloc [.int .i64 0, .nils], [], some 9, none⟩,
    ⟨.load (some 2), [.loc 5], none, none⟩,
    ⟨.mov, [.loc 2], none, none⟩,
    ⟨.call 29, [.tmp 2], none, none⟩,
    ⟨.call 30, [.tmp 1, .tmp 3], none, none⟩,
    ⟨.mov, [.tmp 4], none, none⟩,
    ⟨.extract 0, [.tmp 5], none, none⟩,
    ⟨.extract 1, [.tmp 5], none, none⟩,
    ⟨.store 2, [.tmp 0, .tmp 6], none, none⟩,
    ⟨.mov, [.tmp 7], some 10, none⟩] [(0, [1, 4, 5]), (1, [4])])
    (.seq
    (.region [
    ⟨.mov, [.loc 4], none, none⟩,
    ⟨.mov, [.loc 2], none, none⟩,
    ⟨.call 31, [.tmp 0, .tmp 1], none, none⟩,
    ⟨.mov, [.loc 10], none, none⟩,
    ⟨.bin .eql, [.tmp 2, .tmp 3], none, none⟩,
    ⟨.mov, [.tmp 4], none, none⟩,
    ⟨.mov, [.loc 4], none, some (5, true)⟩,
    ⟨.load (some 2), [.loc 9], none, some (5, true)⟩,
    ⟨.call 32, [.tmp 6, .tmp 7], none, some (5, true)⟩,
    ⟨.pick, [.tmp 5, .tmp 8, .c (.bool false)], none, none⟩,
    ⟨.mov, [.tmp 9], none, none⟩,
    ⟨.call 25, [], none, some (10, true)⟩,
    ⟨.pick, [.tmp 10, .tmp 11, .c (.bool false)], none, none⟩,
    ⟨.mov, [.tmp 12], some 3, none⟩])
    .ret)))))) }

/-- 42 -/
def law06_CellPlays : AFn := { nloc := 17, npar := 2, res := [.loc 2], body :=
    (.seq
    (.region [
    ⟨.mov, [.c (.bool false)], some 2, none⟩])
    (.seq
    (.seq
    (.region [
    ⟨.mov, [.loc 1], none, none⟩,
    ⟨.len, [.tmp 0], none, none⟩,
    ⟨.bin .gtr, [.tmp 1, .c (.int .i64 60)], some 12, none⟩])
    (.cond (.loc 12)
      (.seq
      (.region [
    ⟨.call 25, [], none, none⟩,
    ⟨.mov, [.tmp 0], some 2, none⟩])
      .ret)
      .skip))
    (.seq
    (.seq
    (.region [
    ⟨.mov, [.loc 0], none, none⟩,
    ⟨.bin .gtr, [.tmp 0, .c (.int .i64 40)], some 13, none⟩])
    (.cond (.loc 13)
      (.seq
      (.region [
    ⟨.mov, [.loc 0], none, none⟩,
    ⟨.bin .leq, [.tmp 0, .c (.int .i64 65536)], none, none⟩,
    ⟨.mov, [.tmp 1], none, none⟩,
    ⟨.mov, [.loc 0], none, some (2, false)⟩,
    ⟨.call 21, [.tmp 3], none, some (2, false)⟩,
    ⟨.call 34, [.tmp 4], none, some (2, false)⟩,
    ⟨.bin .eql, [.tmp 5, .c (.int .i64 65536)], none, some (2, false)⟩,
    ⟨.pick, [.tmp 2, .c (.bool true), .tmp 6], none, none⟩,
    ⟨.mov, [.tmp 7], none, none⟩,
    ⟨.call 25, [], none, some (8, true)⟩,
    ⟨.pick, [.tmp 8, .tmp 9, .c (.bool false)], none, none⟩,
    ⟨.mov, [.tmp 10], some 2, none⟩])
      .ret)
      .skip))
    (.seq
    (.region [
    ⟨.mov, [.loc 0], none, none⟩,
    ⟨.call 21, [.tmp 0], none, none⟩,
    ⟨.mov, [.loc 0], none, none⟩,
    ⟨.call 27, [.tmp 2], none, none⟩,
    ⟨.alloc [.int .i64 0, .nils], [], some 4, none⟩,
    ⟨.mov, [.tmp 1], some 3, none⟩,
    ⟨.store 2, [.tmp 4, .tmp 3], none, none⟩])
    (.seq
    (.seq
    (.region [
    ⟨.mov, [.c (.int .i64 0)], some 5, none⟩])
    (.block 0
    (.loop
    (.seq
    (.seq
    (.region [
    ⟨.mov, [.loc 5], none, none⟩,
    ⟨.mov, [.loc 1], none, none⟩,
    ⟨.len, [.tmp 1], none, none⟩,
    ⟨.bin .lss, [.tmp 0, .tmp 2], some 14, none⟩])
    (.cond (.loc 14)
      .skip
      (.exit 0)))
    (.seq
    (.block 1
    (.seq
    (.draw [3, 0, 1, 2, 4, 5] 1 [
    ⟨.alloc [.int .i64 0, .nils], [], some 7, none⟩,
    ⟨.mov, [.loc 3], none, none⟩,
    ⟨.call 35, [.tmp 1], none, none⟩,
    ⟨.load (some 2), [.loc 4], none, none⟩,
    ⟨.mov, [.tmp 2], some 6, none⟩,
    ⟨.store 2, [.tmp 0, .tmp 3], none, none⟩] [(0, [1, 3]), (3, [1])])
    (.seq
    (.draw [10, 0, 1, 2, 3, 4, 5, 6, 7, 8, 9, 11, 12] 1 [
    ⟨.alloc [.int .i64 0, .nils], [], some 8, none⟩,
    ⟨.mov, [.loc 3], none, none⟩,
    ⟨.load (some 2), [.loc 4], none, none⟩,
    ⟨.mov, [.loc 1], none, none⟩,
    ⟨.mov, [.loc 5], none, none⟩,
    ⟨.iaddr 4 none, [.tmp 3, .tmp 4], none, none⟩,
    ⟨.load (some 4), [.tmp 5], none, none⟩,
    ⟨.call 28, [.tmp 1, .tmp 2, .tmp 6], none, none⟩,
    ⟨.mov, [.tmp 7], none, none⟩,
    ⟨.extract 0, [.tmp 8], none, none⟩,
    ⟨.extract 1, [.tmp 8], none, none⟩,
    ⟨.store 2, [.tmp 0, .tmp 9], none, none⟩,
    ⟨.mov, [.tmp 10], some 9, none⟩] [(0, [1, 8])])
    (.seq
    (.region [
    ⟨.load (some 2), [.loc 8], none, none⟩,
    ⟨.store 2, [.loc 4, .tmp 0], none, none⟩])
    (.seq
    (.region [
    ⟨.mov, [.loc 3], none, none⟩,
    ⟨.call 36, [.tmp 0], none, none⟩,
    ⟨.mov, [.tmp 1], none, none⟩,
    ⟨.extract 0, [.tmp 2], none, none⟩,
    ⟨.extract 1, [.tmp 2], none, none⟩,
    ⟨.alloc [.int .i64 0, .int .i64 0, .int .u64 0, .int .u64 0], [], some 10, none⟩,
    ⟨.store 4, [.tmp 5, .tmp 3], none, none⟩,
    ⟨.mov, [.tmp 4], some 11, none⟩])
    (.seq
    (.seq
    (.region [
    ⟨.mov, [.loc 3], none, none⟩,
    ⟨.mov, [.loc 0], none, none⟩,
    ⟨.mov, [.loc 1], none, none⟩,
    ⟨.mov, [.loc 5], none, none⟩,
    ⟨.bin .add, [.tmp 3, .c (.int .i64 1)], none, none⟩,
    ⟨.slice 4 false true false, [.tmp 2, .tmp 4], none, none⟩,
    ⟨.call 37, [.tmp 0, .tmp 1, .tmp 5], none, none⟩,
    ⟨.not, [.tmp 6], some 15, none⟩])
    (.cond (.loc 15)
      (.seq
      (.region [
    ⟨.mov, [.c (.bool false)], some 2, none⟩])
      .ret)
      .skip))
    (.seq
    (.draw [0, 1, 2, 3, 4, 5, 6, 7, 8, 9, 10, 11, 12, 13, 14, 15, 16, 17, 18, 19, 20, 21, 22, 23, 24, 25, 26, 27, 28, 29, 30, 31, 32, 33, 34, 35, 36, 37] 0 [
    ⟨.mov, [.loc 9], none, none⟩,
    ⟨.not, [.tmp 0], none, none⟩,
    ⟨.mov, [.tmp 1], none, none⟩,
    ⟨.mov, [.loc 3], none, some (2, false)⟩,
    ⟨.load (some 2), [.loc 4], none, some (2, false)⟩,
    ⟨.call 32, [.tmp 3, .tmp 4], none, some (2, false)⟩,
    ⟨.not, [.tmp 5], none, some (2, false)⟩,
    ⟨.pick, [.tmp 2, .c (.bool true), .tmp 6], none, none⟩,
    ⟨.mov, [.tmp 7], none, none⟩,
    ⟨.mov, [.loc 6], none, some (8, false)⟩,
    ⟨.load (some 2), [.loc 7], none, some (8, false)⟩,
    ⟨.call 32, [.tmp 9, .tmp 10], none, some (8, false)⟩,
    ⟨.not, [.tmp 11], none, some (8, false)⟩,
    ⟨.pick, [.tmp 8, .c (.bool true), .tmp 12], none, none⟩,
    ⟨.mov, [.tmp 13], none, none⟩,
    ⟨.mov, [.loc 11], none, some (14, false)⟩,
    ⟨.faddr 1, [.loc 4], none, some (14, false)⟩,
    ⟨.load none, [.tmp 16], none, some (14, false)⟩,
    ⟨.len, [.tmp 17], none, some (14, false)⟩,
    ⟨.bin .gtr, [.tmp 18, .c (.int .i64 0)], none, some (14, false)⟩,
    ⟨.eqv .bool true, [.tmp 15, .tmp 19], none, some (14, false)⟩,
    ⟨.pick, [.tmp 14, .c (.bool true), .tmp 20], none, none⟩,
    ⟨.mov, [.tmp 21], none, none⟩,
    ⟨.mov, [.loc 11], none, some (22, false)⟩,
    ⟨.mov, [.tmp 23], none, some (22, false)⟩,
    ⟨.load (some 4), [.loc 10], none, some (24, true)⟩,
    ⟨.call 38, [.tmp 25], none, some (24, true)⟩,
    ⟨.faddr 1, [.loc 4], none, some (24, true)⟩,
    ⟨.load none, [.tmp 27], none, some (24, true)⟩,
    ⟨.faddr 1, [.loc 4], none, some (24, true)⟩,
    ⟨.load none, [.tmp 29], none, some (24, true)⟩,
    ⟨.len, [.tmp 30], none, some (24, true)⟩,
    ⟨.bin .sub, [.tmp 31, .c (.int .i64 1)], none, some (24, true)⟩,
    ⟨.iaddr 4 none, [.tmp 28, .tmp 32], none, some (24, true)⟩,
    ⟨.load (some 4), [.tmp 33], none, some (24, true)⟩,
    ⟨.eqv (.agg [true, true, true, true]) true, [.tmp 26, .tmp 34], none, some (24, true)⟩,
    ⟨.pick, [.tmp 24, .tmp 35, .c (.bool false)], none, some (22, false)⟩,
    ⟨.pick, [.tmp 22, .c (.bool true), .tmp 36], some 16, none⟩] [(28, [12]), (30, [12]), (34, [12])])
    (.cond (.loc 16)
      (.seq
      (.region [
    ⟨.mov, [.c (.bool false)], some 2, none⟩])
      .ret)
      .skip))))))))
    (.region [
    ⟨.mov, [.loc 5], none, none⟩,
    ⟨.bin .add, [.tmp 0, .c (.int .i64 1)], none, none⟩,
    ⟨.mov, [.tmp 1], some 5, none⟩]))))))
    (.seq
    (.region [
    ⟨.mov, [.loc 3], none, none⟩,
    ⟨.call 39, [.tmp 0], none, none⟩,
    ⟨.mov, [.loc 0], none, none⟩,
    ⟨.mov, [.loc 1], none, none⟩,
    ⟨.call 40, [.tmp 2, .tmp 3], none, none⟩,
    ⟨.eqv (.agg [true, true, true, true, true]) false, [.tmp 1, .tmp 4], none, none⟩,
    ⟨.mov, [.tmp 5], none, none⟩,
    ⟨.mov, [.loc 3], none, some (6, true)⟩,
    ⟨.mov, [.loc 3], none, some (6, true)⟩,
    ⟨.call 35, [.tmp 8], none, some (6, true)⟩,
    ⟨.call 41, [.tmp 7, .tmp 9], none, some (6, true)⟩,
    ⟨.pick, [.tmp 6, .tmp 10, .c (.bool false)], none, none⟩,
    ⟨.mov, [.tmp 11], none, none⟩,
    ⟨.mov, [.loc 3], none, some (12, true)⟩,
    ⟨.load (some 2), [.loc 4], none, some (12, true)⟩,
    ⟨.call 32, [.tmp 13, .tmp 14], none, some (12, true)⟩,
    ⟨.pick, [.tmp 12, .tmp 15, .c (.bool false)], none, none⟩,
    ⟨.mov, [.tmp 16], none, none⟩,
    ⟨.call 25, [], none, some (17, true)⟩,
    ⟨.pick, [.tmp 17, .tmp 18, .c (.bool false)], none, none⟩,
    ⟨.mov, [.tmp 19], some 2, none⟩])
    .ret)))))) }

/-- 45 -/
def law06_CellLogs : AFn := { nloc := 24, npar := 3, res := [.loc 3], body :=
    (.seq
    (.region [
    ⟨.mov, [.c (.bool false)], some 3, none⟩])
    (.seq
    (.seq
    (.region [
    ⟨.mov, [.loc 1], none, none⟩,
    ⟨.len, [.tmp 0], none, none⟩,
    ⟨.bin .gtr, [.tmp 1, .c (.int .i64 200)], none, none⟩,
    ⟨.mov, [.tmp 2], none, none⟩,
    ⟨.mov, [.loc 0], none, some (3, false)⟩,
    ⟨.bin .gtr, [.tmp 4, .c (.int .i64 40)], none, some (3, false)⟩,
    ⟨.pick, [.tmp 3, .c (.bool true), .tmp 5], some 16, none⟩])
    (.cond (.loc 16)
      (.seq
      (.region [
    ⟨.call 25, [], none, none⟩,
    ⟨.mov, [.tmp 0], some 3, none⟩])
      .ret)
      .skip))
    (.seq
    (.region [
    ⟨.mov, [.loc 0], none, none⟩,
    ⟨.call 21, [.tmp 0], none, none⟩,
    ⟨.mov, [.tmp 1], some 4, none⟩])
    (.seq
    (.region [
    ⟨.mov, [.loc 0], none, none⟩,
    ⟨.call 27, [.tmp 0], none, none⟩,
    ⟨.alloc [.int .i64 0, .nils], [], some 5, none⟩,
    ⟨.store 2, [.tmp 2, .tmp 1], none, none⟩])
    (.seq
    (.seq
    (.region [
    ⟨.mov, [.c (.int .i64 0)], some 6, none⟩])
    (.block 0
    (.loop
    (.seq
    (.seq
    (.region [
    ⟨.mov, [.loc 6], none, none⟩,
    ⟨.mov, [.loc 1], none, none⟩,
    ⟨.len, [.tmp 1], none, none⟩,
    ⟨.bin .lss, [.tmp 0, .tmp 2], some 17, none⟩])
    (.cond (.loc 17)
      .skip
      (.exit 0)))
    (.seq
    (.block 1
    (.seq
    (.draw [10, 0, 1, 2, 3, 4, 5, 6, 7, 8, 9, 11, 12] 1 [
    ⟨.alloc [.int .i64 0, .nils], [], some 7, none⟩,
    ⟨.mov, [.loc 4], none, none⟩,
    ⟨.load (some 2), [.loc 5], none, none⟩,
    ⟨.mov, [.loc 1], none, none⟩,
    ⟨.mov, [.loc 6], none, none⟩,
    ⟨.iaddr 4 none, [.tmp 3, .tmp 4], none, none⟩,
    ⟨.load (some 4), [.tmp 5], none, none⟩,
    ⟨.call 28, [.tmp 1, .tmp 2, .tmp 6], none, none⟩,
    ⟨.mov, [.tmp 7], none, none⟩,
    ⟨.extract 0, [.tmp 8], none, none⟩,
    ⟨.extract 1, [.tmp 8], none, none⟩,
    ⟨.store 2, [.tmp 0, .tmp 9], none, none⟩,
    ⟨.mov, [.tmp 10], some 8, none⟩] [(0, [1, 8])])
    (.seq
    (.region [
    ⟨.load (some 2), [.loc 7], none, none⟩,
    ⟨.store 2, [.loc 5, .tmp 0], none, none⟩])
    (.seq
    (.region [
    ⟨.mov, [.loc 8], none, none⟩,
    ⟨.not, [.tmp 0], some 18, none⟩])
    (.cond (.loc 18)
      (.seq
      (.region [
    ⟨.mov, [.c (.bool false)], some 3, none⟩])
      .ret)
      .skip)))))
    (.region [
    ⟨.mov, [.loc 6], none, none⟩,
    ⟨.bin .add, [.tmp 0, .c (.int .i64 1)], none, none⟩,
    ⟨.mov, [.tmp 1], some 6, none⟩]))))))
    (.seq
    (.region [
    ⟨.mov, [.loc 4], none, none⟩,
    ⟨.call 43, [.tmp 0], none, none⟩,
    ⟨.mov, [.tmp 1], some 9, none⟩])
    (.seq
    (.region [
    ⟨.mov, [.loc 2], none, none⟩,
    ⟨.conv .i64, [.tmp 0], none, none⟩,
    ⟨.mov, [.loc 9], none, none⟩,
    ⟨.len, [.tmp 2], none, none⟩,
    ⟨.bin .add, [.tmp 3, .c (.int .i64 1)], none, none⟩,
    ⟨.bin .rem, [.tmp 1, .tmp 4], none, none⟩,
    ⟨.mov, [.tmp 5], some 10, none⟩])
    (.seq
    (.region [
    ⟨.mov, [.loc 0], none, none⟩,
    ⟨.call 21, [.tmp 0], none, none⟩,
    ⟨.mov, [.loc 0], none, none⟩,
    ⟨.call 21, [.tmp 2], none, none⟩,
    ⟨.mov, [.tmp 1], some 11, none⟩,
    ⟨.mov, [.tmp 3], some 12, none⟩])
    (.seq
    (.seq
    (.region [
    ⟨.mov, [.loc 11], none, none⟩,
    ⟨.mov, [.loc 9], none, none⟩,
    ⟨.call 31, [.tmp 0, .tmp 1], none, none⟩,
    ⟨.mov, [.loc 9], none, none⟩,
    ⟨.len, [.tmp 3], none, none⟩,
    ⟨.bin .neq, [.tmp 2, .tmp 4], none, none⟩,
    ⟨.mov, [.tmp 5], none, none⟩,
    ⟨.mov, [.loc 12], none, some (6, false)⟩,
    ⟨.mov, [.loc 9], none, some (6, false)⟩,
    ⟨.mov, [.loc 10], none, some (6, false)⟩,
    ⟨.slice 4 false true false, [.tmp 8, .tmp 9], none, some (6, false)⟩,
    ⟨.call 31, [.tmp 7, .tmp 10], none, some (6, false)⟩,
    ⟨.mov, [.loc 10], none, some (6, false)⟩,
    ⟨.bin .neq, [.tmp 11, .tmp 12], none, some (6, false)⟩,
    ⟨.pick, [.tmp 6, .c (.bool true), .tmp 13], none, none⟩,
    ⟨.mov, [.tmp 14], none, none⟩,
    ⟨.mov, [.loc 12], none, some (15, false)⟩,
    ⟨.mov, [.loc 9], none, some (15, false)⟩,
    ⟨.mov, [.loc 10], none, some (15, false)⟩,
    ⟨.slice 4 true false false, [.tmp 17, .tmp 18], none, some (15, false)⟩,
    ⟨.call 31, [.tmp 16, .tmp 19], none, some (15, false)⟩,
    ⟨.mov, [.loc 9], none, some (15, false)⟩,
    ⟨.len, [.tmp 21], none, some (15, false)⟩,
    ⟨.mov, [.loc 10], none, some (15, false)⟩,
    ⟨.bin .sub, [.tmp 22, .tmp 23], none, some (15, false)⟩,
    ⟨.bin .neq, [.tmp 20, .tmp 24], none, some (15, false)⟩,
    ⟨.pick, [.tmp 15, .c (.bool true), .tmp 25], some 19, none⟩])
    (.cond (.loc 19)
      (.seq
      (.region [
    ⟨.mov, [.c (.bool false)], some 3, none⟩])
      .ret)
      .skip))
    (.seq
    (.region [
    ⟨.mov, [.loc 11], none, none⟩,
    ⟨.call 43, [.tmp 0], none, none⟩,
    ⟨.mov, [.tmp 1], some 13, none⟩])
    (.seq
    (.seq
    (.region [
    ⟨.mov, [.loc 13], none, none⟩,
    ⟨.len, [.tmp 0], none, none⟩,
    ⟨.mov, [.loc 9], none, none⟩,
    ⟨.len, [.tmp 2], none, none⟩,
    ⟨.bin .neq, [.tmp 1, .tmp 3], some 20, none⟩])
    (.cond (.loc 20)
      (.seq
      (.region [
    ⟨.mov, [.c (.bool false)], some 3, none⟩])
      .ret)
      .skip))
    (.seq
    (.seq
    (.region [
    ⟨.mov, [.c (.int .i64 0)], some 14, none⟩])
    (.block 2
    (.loop
    (.seq
    (.seq
    (.region [
    ⟨.mov, [.loc 14], none, none⟩,
    ⟨.mov, [.loc 9], none, none⟩,
    ⟨.len, [.tmp 1], none, none⟩,
    ⟨.bin .lss, [.tmp 0, .tmp 2], some 21, none⟩])
    (.cond (.loc 21)
      .skip
      (.exit 2)))
    (.seq
    (.block 3
    (.seq
    (.region [
    ⟨.mov, [.loc 9], none, none⟩,
    ⟨.mov, [.loc 14], none, none⟩,
    ⟨.iaddr 4 none, [.tmp 0, .tmp 1], none, none⟩,
    ⟨.load (some 4), [.tmp 2], none, none⟩,
    ⟨.mov, [.loc 13], none, none⟩,
    ⟨.mov, [.loc 14], none, none⟩,
    ⟨.iaddr 4 none, [.tmp 4, .tmp 5], none, none⟩,
    ⟨.load (some 4), [.tmp 6], none, none⟩,
    ⟨.eqv (.agg [true, true, true, true]) true, [.tmp 3, .tmp 7], some 22, none⟩])
    (.cond (.loc 22)
      (.seq
      (.region [
    ⟨.mov, [.c (.bool false)], some 3, none⟩])
      .ret)
      .skip)))
    (.region [
    ⟨.mov, [.loc 14], none, none⟩,
    ⟨.bin .add, [.tmp 0, .c (.int .i64 1)], none, none⟩,
    ⟨.mov, [.tmp 1], some 14, none⟩]))))))
    (.seq
    (.seq
    (.region [
    ⟨.mov, [.loc 11], none, none⟩,
    ⟨.mov, [.loc 4], none, none⟩,
    ⟨.call 41, [.tmp 0, .tmp 1], none, none⟩,
    ⟨.not, [.tmp 2], none, none⟩,
    ⟨.mov, [.tmp 3], none, none⟩,
    ⟨.mov, [.loc 12], none, some (4, false)⟩,
    ⟨.mov, [.loc 4], none, some (4, false)⟩,
    ⟨.call 41, [.tmp 5, .tmp 6], none, some (4, false)⟩,
    ⟨.not, [.tmp 7], none, some (4, false)⟩,
    ⟨.pick, [.tmp 4, .c (.bool true), .tmp 8], none, none⟩,
    ⟨.mov, [.tmp 9], none, none⟩,
    ⟨.mov, [.loc 4], none, some (10, false)⟩,
    ⟨.call 34, [.tmp 11], none, some (10, false)⟩,
    ⟨.bin .eql, [.tmp 12, .c (.int .i64 0)], none, some (10, false)⟩,
    ⟨.pick, [.tmp 10, .c (.bool true), .tmp 13], some 23, none⟩])
    (.cond (.loc 23)
      (.seq
      (.region [
    ⟨.mov, [.loc 4], none, none⟩,
    ⟨.call 34, [.tmp 0], none, none⟩,
    ⟨.bin .eql, [.tmp 1, .c (.int .i64 0)], none, none⟩,
    ⟨.mov, [.tmp 2], none, none⟩,
    ⟨.mov, [.loc 11], none, some (3, true)⟩,
    ⟨.mov, [.loc 4], none, some (3, true)⟩,
    ⟨.call 41, [.tmp 4, .tmp 5], none, some (3, true)⟩,
    ⟨.pick, [.tmp 3, .tmp 6, .c (.bool false)], none, none⟩,
    ⟨.mov, [.tmp 7], none, none⟩,
    ⟨.mov, [.loc 4], none, some (8, true)⟩,
    ⟨.call 41, [.c (.nilp), .tmp 9], none, some (8, true)⟩,
    ⟨.pick, [.tmp 8, .tmp 10, .c (.bool false)], none, none⟩,
    ⟨.mov, [.tmp 11], none, none⟩,
    ⟨.call 25, [], none, some (12, true)⟩,
    ⟨.pick, [.tmp 12, .tmp 13, .c (.bool false)], none, none⟩,
    ⟨.mov, [.tmp 14], some 3, none⟩])
      .ret)
      .skip))
    (.seq
    (.region [
    ⟨.mov, [.loc 10], none, none⟩,
    ⟨.mov, [.loc 4], none, none⟩,
    ⟨.call 34, [.tmp 1], none, none⟩,
    ⟨.bin .rem, [.tmp 0, .tmp 2], none, none⟩,
    ⟨.mov, [.tmp 3], some 15, none⟩])
    (.seq
    (.region [
    ⟨.mov, [.loc 11], none, none⟩,
    ⟨.mov, [.loc 15], none, none⟩,
    ⟨.call 44, [.tmp 0, .tmp 1, .c (.int .u64 1)], none, none⟩])
    (.seq
    (.region [
    ⟨.mov, [.loc 11], none, none⟩,
    ⟨.mov, [.loc 4], none, none⟩,
    ⟨.call 41, [.tmp 0, .tmp 1], none, none⟩,
    ⟨.not, [.tmp 2], none, none⟩,
    ⟨.mov, [.tmp 3], none, none⟩,
    ⟨.mov, [.loc 4], none, some (4, true)⟩,
    ⟨.mov, [.loc 0], none, some (4, true)⟩,
    ⟨.bin .add, [.tmp 6, .c (.int .i64 1)], none, some (4, true)⟩,
    ⟨.call 21, [.tmp 7], none, some (4, true)⟩,
    ⟨.call 41, [.tmp 5, .tmp 8], none, some (4, true)⟩,
    ⟨.not, [.tmp 9], none, some (4, true)⟩,
    ⟨.pick, [.tmp 4, .tmp 10, .c (.bool false)], none, none⟩,
    ⟨.mov, [.tmp 11], none, none⟩,
    ⟨.call 25, [], none, some (12, true)⟩,
    ⟨.pick, [.tmp 12, .tmp 13, .c (.bool false)], none, none⟩,
    ⟨.mov, [.tmp 14], some 3, none⟩])
    .ret)))))))))))))))) }

/-- 48 -/
def law06_CellKnown : AFn := { nloc := 17, npar := 0, res := [.loc 0], body :=
    (.seq
    (.region [
    ⟨.mov, [.c (.bool false)], some 0, none⟩])
    (.seq
    (.region [
    ⟨.mov, [.c (.int .i64 1)], some 1, none⟩])
    (.seq
    (.seq
    (.region [
    ⟨.mov, [.c (.int .i64 0)], some 2, none⟩])
    (.block 0
    (.loop
    (.seq
    (.seq
    (.region [
    ⟨.mov, [.loc 2], none, none⟩,
    ⟨.bin .lss, [.tmp 0, .c (.int .i64 50)], some 12, none⟩])
    (.cond (.loc 12)
      .skip
      (.exit 0)))
    (.seq
    (.block 1
    (.seq
    (.region [
    ⟨.mov, [.c (.nils)], some 3, none⟩])
    (.seq
    (.region [
    ⟨.mov, [.c (.nils)], some 4, none⟩])
    (.seq
    (.seq
    (.region [
    ⟨.mov, [.c (.int .i64 0)], some 5, none⟩])
    (.block 2
    (.loop
    (.seq
    (.seq
    (.region [
    ⟨.mov, [.loc 5], none, none⟩,
    ⟨.bin .lss, [.tmp 0, .c (.int .i64 200)], some 13, none⟩])
    (.cond (.loc 13)
      .skip
      (.exit 2)))
    (.seq
    (.block 3
    (.seq
    (.region [
    ⟨.mov, [.loc 3], none, none⟩,
    ⟨.mov, [.loc 1], none, none⟩,
    ⟨.bin .rem, [.tmp 1, .c (.int .i64 6)], none, none⟩,
    ⟨.mov, [.loc 1], none, none⟩,
    ⟨.bin .quo, [.tmp 3, .c (.int .i64 6)], none, none⟩,
    ⟨.bin .rem, [.tmp 4, .c (.int .i64 7)], none, none⟩,
    ⟨.bin .sub, [.tmp 5, .c (.int .i64 1)], none, none⟩,
    ⟨.mov, [.loc 1], none, none⟩,
    ⟨.bin .rem, [.tmp 7, .c (.int .i64 3)], none, none⟩,
    ⟨.conv .u64, [.tmp 8], none, none⟩,
    ⟨.mov, [.loc 1], none, none⟩,
    ⟨.bin .quo, [.tmp 10, .c (.int .i64 5)], none, none⟩,
    ⟨.bin .rem, [.tmp 11, .c (.int .i64 3)], none, none⟩,
    ⟨.conv .u64, [.tmp 12], none, none⟩,
    ⟨.build [.int .i64 0, .int .i64 0, .int .u64 0, .int .u64 0] [(0, 1), (1, 1), (2, 1), (3, 1)], [.tmp 2, .tmp 6, .tmp 9, .tmp 13], none, none⟩,
    ⟨.lit 1 4 [.int .i64 0, .int .i64 0, .int .u64 0, .int .u64 0] [(0, 4)], [.tmp 14], none, none⟩,
    ⟨.append 4 32, [.tmp 0, .tmp 15], none, none⟩,
    ⟨.mov, [.tmp 16], some 3, none⟩])
    (.seq
    (.region [
    ⟨.mov, [.loc 4], none, none⟩,
    ⟨.mov, [.loc 1], none, none⟩,
    ⟨.bin .rem, [.tmp 1, .c (.int .i64 5)], none, none⟩,
    ⟨.mov, [.loc 1], none, none⟩,
    ⟨.bin .quo, [.tmp 3, .c (.int .i64 5)], none, none⟩,
    ⟨.bin .rem, [.tmp 4, .c (.int .i64 5)], none, none⟩,
    ⟨.mov, [.loc 1], none, none⟩,
    ⟨.bin .rem, [.tmp 6, .c (.int .i64 2)], none, none⟩,
    ⟨.conv .u64, [.tmp 7], none, none⟩,
    ⟨.mov, [.loc 1], none, none⟩,
    ⟨.bin .quo, [.tmp 9, .c (.int .i64 2)], none, none⟩,
    ⟨.bin .rem, [.tmp 10, .c (.int .i64 2)], none, none⟩,
    ⟨.conv .u64, [.tmp 11], none, none⟩,
    ⟨.build [.int .i64 0, .int .i64 0, .int .u64 0, .int .u64 0] [(0, 1), (1, 1), (2, 1), (3, 1)], [.tmp 2, .tmp 5, .tmp 8, .tmp 12], none, none⟩,
    ⟨.lit 1 4 [.int .i64 0, .int .i64 0, .int .u64 0, .int .u64 0] [(0, 4)], [.tmp 13], none, none⟩,
    ⟨.append 4 32, [.tmp 0, .tmp 14], none, none⟩,
    ⟨.mov, [.tmp 15], some 4, none⟩])
    (.region [
    ⟨.mov, [.loc 1], none, none⟩,
    ⟨.bin .mul, [.tmp 0, .c (.int .i64 31)], none, none⟩,
    ⟨.mov, [.loc 5], none, none⟩,
    ⟨.bin .mul, [.c (.int .i64 7), .tmp 2], none, none⟩,
    ⟨.bin .add, [.tmp 1, .tmp 3], none, none⟩,
    ⟨.bin .add, [.tmp 4, .c (.int .i64 11)], none, none⟩,
    ⟨.bin .rem, [.tmp 5, .c (.int .i64 100003)], none, none⟩,
    ⟨.mov, [.tmp 6], some 1, none⟩]))))
    (.region [
    ⟨.mov, [.loc 5], none, none⟩,
    ⟨.bin .add, [.tmp 0, .c (.int .i64 1)], none, none⟩,
    ⟨.mov, [.tmp 1], some 5, none⟩]))))))
    (.seq
    (.region [
    ⟨.mov, [.loc 2], none, none⟩,
    ⟨.bin .rem, [.tmp 0, .c (.int .i64 8)], none, none⟩,
    ⟨.mov, [.loc 3], none, none⟩,
    ⟨.slice 4 false true false, [.tmp 2, .c (.int .i64 60)], none, none⟩,
    ⟨.call 42, [.tmp 1, .tmp 3], none, none⟩,
    ⟨.not, [.tmp 4], none, none⟩,
    ⟨.mov, [.tmp 5], none, none⟩,
    ⟨.mov, [.loc 2], none, some (6, false)⟩,
    ⟨.bin .rem, [.tmp 7, .c (.int .i64 6)], none, some (6, false)⟩,
    ⟨.mov, [.loc 3], none, some (6, false)⟩,
    ⟨.mov, [.loc 2], none, some (6, false)⟩,
    ⟨.bin .rem, [.tmp 10, .c (.int .i64 40)], none, some (6, false)⟩,
    ⟨.slice 4 false true false, [.tmp 9, .tmp 11], none, some (6, false)⟩,
    ⟨.mov, [.loc 4], none, some (6, false)⟩,
    ⟨.slice 4 false true false, [.tmp 13, .c (.int .i64 40)], none, some (6, false)⟩,
    ⟨.call 33, [.tmp 8, .tmp 12, .tmp 14], none, some (6, false)⟩,
    ⟨.not, [.tmp 15], none, some (6, false)⟩,
    ⟨.pick, [.tmp 6, .c (.bool true), .tmp 16], none, none⟩,
    ⟨.mov, [.tmp 17], none, none⟩,
    ⟨.mov, [.loc 4], none, some (18, false)⟩,
    ⟨.mov, [.loc 2], none, some (18, false)⟩,
    ⟨.bin .rem, [.tmp 20, .c (.int .i64 40)], none, some (18, false)⟩,
    ⟨.slice 4 false true false, [.tmp 19, .tmp 21], none, some (18, false)⟩,
    ⟨.call 33, [.c (.int .i64 5), .c (.nils), .tmp 22], none, some (18, false)⟩,
    ⟨.not, [.tmp 23], none, some (18, false)⟩,
    ⟨.pick, [.tmp 18, .c (.bool true), .tmp 24], none, none⟩,
    ⟨.mov, [.tmp 25], none, none⟩,
    ⟨.mov, [.loc 2], none, some (26, false)⟩,
    ⟨.bin .rem, [.tmp 27, .c (.int .i64 7)], none, some (26, false)⟩,
    ⟨.mov, [.loc 3], none, some (26, false)⟩,
    ⟨.mov, [.loc 2], none, some (26, false)⟩,
    ⟨.bin .mul, [.tmp 30, .c (.int .i64 5)], none, some (26, false)⟩,
    ⟨.conv .u8, [.tmp 31], none, some (26, false)⟩,
    ⟨.call 45, [.tmp 28, .tmp 29, .tmp 32], none, some (26, false)⟩,
    ⟨.not, [.tmp 33], none, some (26, false)⟩,
    ⟨.pick, [.tmp 26, .c (.bool true), .tmp 34], none, none⟩,
    ⟨.mov, [.tmp 35], none, none⟩,
    ⟨.mov, [.loc 1], none, some (36, false)⟩,
    ⟨.bin .rem, [.tmp 37, .c (.int .i64 3)], none, some (36, false)⟩,
    ⟨.conv .u64, [.tmp 38], none, some (36, false)⟩,
    ⟨.mov, [.loc 2], none, some (36, false)⟩,
    ⟨.bin .rem, [.tmp 40, .c (.int .i64 3)], none, some (36, false)⟩,
    ⟨.conv .u64, [.tmp 41], none, some (36, false)⟩,
    ⟨.mov, [.loc 1], none, some (36, false)⟩,
    ⟨.bin .quo, [.tmp 43, .c (.int .i64 3)], none, some (36, false)⟩,
    ⟨.bin .rem, [.tmp 44, .c (.int .i64 3)], none, some (36, false)⟩,
    ⟨.conv .u64, [.tmp 45], none, some (36, false)⟩,
    ⟨.call 26, [.tmp 39, .tmp 42, .tmp 46, .c (.int .u64 7)], none, some (36, false)⟩,
    ⟨.not, [.tmp 47], none, some (36, false)⟩,
    ⟨.pick, [.tmp 36, .c (.bool true), .tmp 48], some 14, none⟩])
    (.cond (.loc 14)
      (.seq
      (.region [
    ⟨.mov, [.c (.bool false)], some 0, none⟩])
      .ret)
      .skip))))))
    (.region [
    ⟨.mov, [.loc 2], none, none⟩,
    ⟨.bin .add, [.tmp 0, .c (.int .i64 1)], none, none⟩,
    ⟨.mov, [.tmp 1], some 2, none⟩]))))))
    (.seq
    (.region [
    ⟨.call 21, [.c (.int .i64 2)], none, none⟩,
    ⟨.mov, [.tmp 0], some 6, none⟩])
    (.seq
    (.seq
    (.region [
    ⟨.mov, [.c (.int .i64 0)], some 7, none⟩])
    (.block 4
    (.loop
    (.seq
    (.seq
    (.region [
    ⟨.mov, [.loc 7], none, none⟩,
    ⟨.bin .lss, [.tmp 0, .c (.int .i64 300)], some 15, none⟩])
    (.cond (.loc 15)
      .skip
      (.exit 4)))
    (.seq
    (.block 5
    (.region [
    ⟨.mov, [.loc 6], none, none⟩,
    ⟨.mov, [.loc 7], none, none⟩,
    ⟨.bin .rem, [.tmp 1, .c (.int .i64 2)], none, none⟩,
    ⟨.call 44, [.tmp 0, .tmp 2, .c (.int .u64 1)], none, none⟩]))
    (.region [
    ⟨.mov, [.loc 7], none, none⟩,
    ⟨.bin .add, [.tmp 0, .c (.int .i64 1)], none, none⟩,
    ⟨.mov, [.tmp 1], some 7, none⟩]))))))
    (.seq
    (.region [
    ⟨.mov, [.loc 6], none, none⟩,
    ⟨.call 43, [.tmp 0], none, none⟩,
    ⟨.mov, [.tmp 1], some 8, none⟩])
    (.seq
    (.seq
    (.region [
    ⟨.mov, [.loc 8], none, none⟩,
    ⟨.len, [.tmp 0], none, none⟩,
    ⟨.bin .neq, [.tmp 1, .c (.int .i64 256)], none, none⟩,
    ⟨.mov, [.tmp 2], none, none⟩,
    ⟨.mov, [.loc 8], none, some (3, false)⟩,
    ⟨.iaddr 4 none, [.tmp 4, .c (.int .i64 0)], none, some (3, false)⟩,
    ⟨.faddr 2, [.tmp 5], none, some (3, false)⟩,
    ⟨.load none, [.tmp 6], none, some (3, false)⟩,
    ⟨.bin .neq, [.tmp 7, .c (.int .u64 22)], none, some (3, false)⟩,
    ⟨.pick, [.tmp 3, .c (.bool true), .tmp 8], none, none⟩,
    ⟨.mov, [.tmp 9], none, none⟩,
    ⟨.mov, [.loc 8], none, some (10, false)⟩,
    ⟨.iaddr 4 none, [.tmp 11, .c (.int .i64 0)], none, some (10, false)⟩,
    ⟨.faddr 3, [.tmp 12], none, some (10, false)⟩,
    ⟨.load none, [.tmp 13], none, some (10, false)⟩,
    ⟨.bin .neq, [.tmp 14, .c (.int .u64 23)], none, some (10, false)⟩,
    ⟨.pick, [.tmp 10, .c (.bool true), .tmp 15], none, none⟩,
    ⟨.mov, [.tmp 16], none, none⟩,
    ⟨.mov, [.loc 6], none, some (17, false)⟩,
    ⟨.call 46, [.tmp 18], none, some (17, false)⟩,
    ⟨.bin .neq, [.tmp 19, .c (.int .u64 300)], none, some (17, false)⟩,
    ⟨.pick, [.tmp 17, .c (.bool true), .tmp 20], none, none⟩,
    ⟨.mov, [.tmp 21], none, none⟩,
    ⟨.mov, [.loc 6], none, some (22, false)⟩,
    ⟨.call 24, [.tmp 23, .c (.int .i64 0)], none, some (22, false)⟩,
    ⟨.bin .neq, [.tmp 24, .c (.int .u64 150)], none, some (22, false)⟩,
    ⟨.pick, [.tmp 22, .c (.bool true), .tmp 25], some 16, none⟩])
    (.cond (.loc 16)
      (.seq
      (.region [
    ⟨.mov, [.c (.bool false)], some 0, none⟩])
      .ret)
      .skip))
    (.seq
    (.region [
    ⟨.mov, [.c (.nilp)], some 9, none⟩])
    (.seq
    (.region [
    ⟨.mov, [.loc 9], none, none⟩,
    ⟨.call 22, [.tmp 0, .c (.int .i64 0), .c (.int .u64 1)], none, none⟩])
    (.seq
    (.region [
    ⟨.mov, [.loc 9], none, none⟩,
    ⟨.call 36, [.tmp 0], none, none⟩,
    ⟨.mov, [.tmp 1], none, none⟩,
    ⟨.extract 0, [.tmp 2], none, none⟩,
    ⟨.extract 1, [.tmp 2], none, none⟩,
    ⟨.alloc [.int .i64 0, .int .i64 0, .int .u64 0, .int .u64 0], [], none, none⟩,
    ⟨.store 4, [.tmp 5, .tmp 3], none, none⟩,
    ⟨.mov, [.tmp 4], some 10, none⟩])
    (.seq
    (.region [
    ⟨.mov, [.loc 9], none, none⟩,
    ⟨.call 24, [.tmp 0, .c (.int .i64 0)], none, none⟩,
    ⟨.bin .eql, [.tmp 1, .c (.int .u64 0)], none, none⟩,
    ⟨.mov, [.tmp 2], none, none⟩,
    ⟨.mov, [.loc 9], none, some (3, true)⟩,
    ⟨.call 23, [.tmp 4, .c (.int .i64 0), .c (.int .u64 0), .c (.int .u64 0)], none, some (3, true)⟩,
    ⟨.not, [.tmp 5], none, some (3, true)⟩,
    ⟨.pick, [.tmp 3, .tmp 6, .c (.bool false)], none, none⟩,
    ⟨.mov, [.tmp 7], none, none⟩,
    ⟨.mov, [.loc 9], none, some (8, true)⟩,
    ⟨.call 44, [.tmp 9, .c (.int .i64 0), .c (.int .u64 1)], none, some (8, true)⟩,
    ⟨.bin .eql, [.tmp 10, .c (.int .u64 0)], none, some (8, true)⟩,
    ⟨.pick, [.tmp 8, .tmp 11, .c (.bool false)], none, none⟩,
    ⟨.mov, [.tmp 12], none, none⟩,
    ⟨.mov, [.loc 9], none, some (13, true)⟩,
    ⟨.call 46, [.tmp 14], none, some (13, true)⟩,
    ⟨.bin .eql, [.tmp 15, .c (.int .u64 0)], none, some (13, true)⟩,
    ⟨.pick, [.tmp 13, .tmp 16, .c (.bool false)], none, none⟩,
    ⟨.mov, [.tmp 17], none, none⟩,
    ⟨.mov, [.loc 9], none, some (18, true)⟩,
    ⟨.call 39, [.tmp 19], none, some (18, true)⟩,
    ⟨.build [.int .u64 0, .int .u64 0, .int .u64 0, .int .u64 0, .int .u64 0] [], [], none, some (18, true)⟩,
    ⟨.eqv (.agg [true, true, true, true, true]) false, [.tmp 20, .tmp 21], none, some (18, true)⟩,
    ⟨.pick, [.tmp 18, .tmp 22, .c (.bool false)], none, none⟩,
    ⟨.mov, [.tmp 23], none, none⟩,
    ⟨.mov, [.loc 10], none, some (24, true)⟩,
    ⟨.not, [.tmp 25], none, some (24, true)⟩,
    ⟨.pick, [.tmp 24, .tmp 26, .c (.bool false)], none, none⟩,
    ⟨.mov, [.tmp 27], none, none⟩,
    ⟨.mov, [.loc 9], none, some (28, true)⟩,
    ⟨.call 43, [.tmp 29], none, some (28, true)⟩,
    ⟨.len, [.tmp 30], none, some (28, true)⟩,
    ⟨.mov, [.loc 9], none, some (28, true)⟩,
    ⟨.call 34, [.tmp 32], none, some (28, true)⟩,
    ⟨.bin .add, [.tmp 31, .tmp 33], none, some (28, true)⟩,
    ⟨.mov, [.loc 9], none, some (28, true)⟩,
    ⟨.call 47, [.tmp 35], none, some (28, true)⟩,
    ⟨.len, [.tmp 36], none, some (28, true)⟩,
    ⟨.bin .add, [.tmp 34, .tmp 37], none, some (28, true)⟩,
    ⟨.bin .eql, [.tmp 38, .c (.int .i64 0)], none, some (28, true)⟩,
    ⟨.pick, [.tmp 28, .tmp 39, .c (.bool false)], none, none⟩,
    ⟨.mov, [.tmp 40], none, none⟩,
    ⟨.mov, [.loc 9], none, some (41, true)⟩,
    ⟨.call 35, [.tmp 42], none, some (41, true)⟩,
    ⟨.eqv .ptr false, [.tmp 43, .c (.nilp)], none, some (41, true)⟩,
    ⟨.pick, [.tmp 41, .tmp 44, .c (.bool false)], none, none⟩,
    ⟨.mov, [.tmp 45], none, none⟩,
    ⟨.mov, [.loc 9], none, some (46, true)⟩,
    ⟨.mov, [.loc 8], none, some (46, true)⟩,
    ⟨.call 31, [.tmp 47, .tmp 48], none, some (46, true)⟩,
    ⟨.bin .eql, [.tmp 49, .c (.int .i64 0)], none, some (46, true)⟩,
    ⟨.pick, [.tmp 46, .tmp 50, .c (.bool false)], none, none⟩,
    ⟨.mov, [.tmp 51], some 11, none⟩])
    (.seq
    (.region [
    ⟨.mov, [.loc 11], none, none⟩,
    ⟨.mov, [.tmp 0], none, none⟩,
    ⟨.mov, [.loc 9], none, some (1, true)⟩,
    ⟨.call 41, [.tmp 2, .c (.nilp)], none, some (1, true)⟩,
    ⟨.pick, [.tmp 1, .tmp 3, .c (.bool false)], none, none⟩,
    ⟨.mov, [.tmp 4], none, none⟩,
    ⟨.mov, [.loc 9], none, some (5, true)⟩,
    ⟨.call 21, [.c (.int .i64 (-5))], none, some (5, true)⟩,
    ⟨.call 41, [.tmp 6, .tmp 7], none, some (5, true)⟩,
    ⟨.pick, [.tmp 5, .tmp 8, .c (.bool false)], none, none⟩,
    ⟨.mov, [.tmp 9], none, none⟩,
    ⟨.mov, [.loc 6], none, some (10, true)⟩,
    ⟨.mov, [.loc 9], none, some (10, true)⟩,
    ⟨.call 41, [.tmp 11, .tmp 12], none, some (10, true)⟩,
    ⟨.not, [.tmp 13], none, some (10, true)⟩,
    ⟨.pick, [.tmp 10, .tmp 14, .c (.bool false)], none, none⟩,
    ⟨.mov, [.tmp 15], none, none⟩,
    ⟨.call 42, [.c (.int .i64 70000), .c (.nils)], none, some (16, true)⟩,
    ⟨.pick, [.tmp 16, .tmp 17, .c (.bool false)], none, none⟩,
    ⟨.mov, [.tmp 18], none, none⟩,
    ⟨.call 42, [.c (.int .i64 (-9223372036854775808)), .c (.nils)], none, some (19, true)⟩,
    ⟨.pick, [.tmp 19, .tmp 20, .c (.bool false)], none, none⟩,
    ⟨.mov, [.tmp 21], none, none⟩,
    ⟨.call 25, [], none, some (22, true)⟩,
    ⟨.pick, [.tmp 22, .tmp 23, .c (.bool false)], none, none⟩,
    ⟨.mov, [.tmp 24], some 0, none⟩])
    .ret)))))))))))) }

/-- 21 -/
def cell_New : AFn := { nloc := 2, npar := 1, res := [.loc 1], body :=
    (.seq
    (.region [
    ⟨.mov, [.c (.nilp)], some 1, none⟩])
    (.seq
    (.region [
    ⟨.mov, [.loc 0], none, none⟩,
    ⟨.min, [.tmp 0, .c (.int .i64 65536)], none, none⟩,
    ⟨.max, [.c (.int .i64 0), .tmp 1], none, none⟩,
    ⟨.make 1 8 [.int .u64 0], [.tmp 2, .tmp 2], none, none⟩,
    ⟨.build [.int .u64 0, .int .u64 0, .int .u64 0, .int .u64 0, .int .u64 0, .int .u64 0, .nils, .nils] [(7, 1)], [.tmp 3], none, none⟩,
    ⟨.box, [.tmp 4], none, none⟩,
    ⟨.mov, [.tmp 5], some 1, none⟩])
    .ret)) }

/-- 22 -/
def cell_Mem_Store : AFn := { nloc := 4, npar := 3, res := [], body :=
    (.seq
    (.region [
    ⟨.box, [.loc 2], some 3, none⟩])
    (.region [
    ⟨.mov, [.loc 0], none, none⟩,
    ⟨.mov, [.loc 1], none, none⟩,
    ⟨.mkfn 49 0, [.loc 3], none, none⟩,
    ⟨.call 50, [.tmp 0, .c (.int .i64 2), .tmp 1, .tmp 2], none, none⟩])) }

/-- 23 -/
def cell_Mem_CAS : AFn := { nloc := 8, npar := 4, res := [.loc 6], body :=
    (.seq
    (.region [
    ⟨.box, [.loc 2], some 4, none⟩,
    ⟨.box, [.loc 3], some 5, none⟩,
    ⟨.mov, [.c (.bool false)], some 6, none⟩])
    (.seq
    (.region [
    ⟨.mov, [.loc 0], none, none⟩,
    ⟨.mov, [.loc 1], none, none⟩,
    ⟨.mkfn 51 0, [.loc 4, .loc 5], none, none⟩,
    ⟨.call 50, [.tmp 0, .c (.int .i64 3), .tmp 1, .tmp 2], none, none⟩,
    ⟨.mov, [.tmp 3], none, none⟩,
    ⟨.extract 0, [.tmp 4], none, none⟩,
    ⟨.extract 1, [.tmp 4], none, none⟩,
    ⟨.mov, [.tmp 5], none, none⟩,
    ⟨.mov, [.tmp 6], some 7, none⟩])
    (.seq
    (.region [
    ⟨.mov, [.loc 7], none, none⟩,
    ⟨.mov, [.tmp 0], some 6, none⟩])
    .ret))) }

/-- 24 -/
def cell_Mem_Load : AFn := { nloc := 4, npar := 2, res := [.loc 2], body :=
    (.seq
    (.region [
    ⟨.mov, [.c (.int .u64 0)], some 2, none⟩])
    (.seq
    (.region [
    ⟨.mov, [.loc 0], none, none⟩,
    ⟨.mov, [.loc 1], none, none⟩,
    ⟨.call 50, [.tmp 0, .c (.int .i64 1), .tmp 1, .c (.fn 52 [] [])], none, none⟩,
    ⟨.mov, [.tmp 2], none, none⟩,
    ⟨.extract 0, [.tmp 3], none, none⟩,
    ⟨.extract 1, [.tmp 3], none, none⟩,
    ⟨.mov, [.tmp 4], some 3, none⟩,
    ⟨.mov, [.tmp 5], none, none⟩])
    (.seq
    (.region [
    ⟨.mov, [.loc 3], none, none⟩,
    ⟨.mov, [.tmp 0], some 2, none⟩])
    .ret))) }

/-- 25 -/
def law06_works : AFn := { nloc := 4, npar := 0, res := [.loc 0], body :=
    (.seq
    (.region [
    ⟨.mov, [.c (.bool false)], some 0, none⟩])
    (.seq
    (.region [
    ⟨.call 21, [.c (.int .i64 3)], none, none⟩,
    ⟨.mov, [.tmp 0], some 1, none⟩])
    (.seq
    (.region [
    ⟨.mov, [.loc 1], none, none⟩,
    ⟨.call 22, [.tmp 0, .c (.int .i64 1), .c (.int .u64 7)], none, none⟩])
    (.seq
    (.region [
    ⟨.mov, [.loc 1], none, none⟩,
    ⟨.call 23, [.tmp 0, .c (.int .i64 1), .c (.int .u64 7), .c (.int .u64 9)], none, none⟩,
    ⟨.mov, [.tmp 1], none, none⟩,
    ⟨.mov, [.loc 1], none, some (2, true)⟩,
    ⟨.call 23, [.tmp 3, .c (.int .i64 1), .c (.int .u64 7), .c (.int .u64 8)], none, some (2, true)⟩,
    ⟨.not, [.tmp 4], none, some (2, true)⟩,
    ⟨.pick, [.tmp 2, .tmp 5, .c (.bool false)], none, none⟩,
    ⟨.mov, [.tmp 6], none, none⟩,
    ⟨.mov, [.loc 1], none, some (7, true)⟩,
    ⟨.call 44, [.tmp 8, .c (.int .i64 1), .c (.int .u64 2)], none, some (7, true)⟩,
    ⟨.bin .eql, [.tmp 9, .c (.int .u64 9)], none, some (7, true)⟩,
    ⟨.pick, [.tmp 7, .tmp 10, .c (.bool false)], none, none⟩,
    ⟨.mov, [.tmp 11], none, none⟩,
    ⟨.mov, [.loc 1], none, some (12, true)⟩,
    ⟨.call 24, [.tmp 13, .c (.int .i64 1)], none, some (12, true)⟩,
    ⟨.bin .eql, [.tmp 14, .c (.int .u64 11)], none, some (12, true)⟩,
    ⟨.pick, [.tmp 12, .tmp 15, .c (.bool false)], none, none⟩,
    ⟨.mov, [.tmp 16], none, none⟩,
    ⟨.mov, [.loc 1], none, some (17, true)⟩,
    ⟨.call 46, [.tmp 18], none, some (17, true)⟩,
    ⟨.bin .eql, [.tmp 19, .c (.int .u64 5)], none, some (17, true)⟩,
    ⟨.pick, [.tmp 17, .tmp 20, .c (.bool false)], none, none⟩,
    ⟨.mov, [.tmp 21], some 2, none⟩])
    (.seq
    (.region [
    ⟨.call 21, [.c (.int .i64 3)], none, none⟩,
    ⟨.mov, [.tmp 0], some 3, none⟩])
    (.seq
    (.region [
    ⟨.mov, [.loc 3], none, none⟩,
    ⟨.call 22, [.tmp 0, .c (.int .i64 (-1)), .c (.int .u64 5)], none, none⟩])
    (.seq
    (.region [
    ⟨.mov, [.loc 2], none, none⟩,
    ⟨.mov, [.tmp 0], none, none⟩,
    ⟨.mov, [.loc 3], none, some (1, true)⟩,
    ⟨.call 24, [.tmp 2, .c (.int .i64 3)], none, some (1, true)⟩,
    ⟨.bin .eql, [.tmp 3, .c (.int .u64 0)], none, some (1, true)⟩,
    ⟨.pick, [.tmp 1, .tmp 4, .c (.bool false)], none, none⟩,
    ⟨.mov, [.tmp 5], none, none⟩,
    ⟨.mov, [.loc 3], none, some (6, true)⟩,
    ⟨.call 46, [.tmp 7], none, some (6, true)⟩,
    ⟨.bin .eql, [.tmp 8, .c (.int .u64 0)], none, some (6, true)⟩,
    ⟨.pick, [.tmp 6, .tmp 9, .c (.bool false)], none, none⟩,
    ⟨.mov, [.tmp 10], none, none⟩,
    ⟨.mov, [.loc 3], none, some (11, true)⟩,
    ⟨.call 34, [.tmp 12], none, some (11, true)⟩,
    ⟨.bin .eql, [.tmp 13, .c (.int .i64 3)], none, some (11, true)⟩,
    ⟨.pick, [.tmp 11, .tmp 14, .c (.bool false)], none, none⟩,
    ⟨.mov, [.tmp 15], some 0, none⟩])
    .ret))))))) }

/-- 27 -/
def ref06_NewBook : AFn := { nloc := 2, npar := 1, res := [.cell 1 (some 2)], body :=
    (.seq
    (.region [
    ⟨.alloc [.int .i64 0, .nils], [], some 1, none⟩])
    (.seq
    (.region [
    ⟨.mov, [.loc 0], none, none⟩,
    ⟨.min, [.tmp 0, .c (.int .i64 65536)], none, none⟩,
    ⟨.max, [.c (.int .i64 0), .tmp 1], none, none⟩,
    ⟨.build [.int .i64 0, .nils] [(0, 1)], [.tmp 2], none, none⟩,
    ⟨.store 2, [.loc 1, .tmp 3], none, none⟩])
    .ret)) }

/-- 28 -/
def law06_does : AFn := { nloc := 15, npar := 3, res := [.cell 5 (some 2), .loc 6], body :=
    (.seq
    (.region [
    ⟨.box, [.loc 1], some 3, none⟩,
    ⟨.box, [.loc 2], some 4, none⟩,
    ⟨.alloc [.int .i64 0, .nils], [], some 5, none⟩,
    ⟨.mov, [.c (.bool false)], some 6, none⟩])
    (.seq
    (.region [
    ⟨.load (some 2), [.loc 3], none, none⟩,
    ⟨.faddr 0, [.loc 4], none, none⟩,
    ⟨.load none, [.tmp 1], none, none⟩,
    ⟨.faddr 1, [.loc 4], none, none⟩,
    ⟨.load none, [.tmp 3], none, none⟩,
    ⟨.faddr 2, [.loc 4], none, none⟩,
    ⟨.load none, [.tmp 5], none, none⟩,
    ⟨.faddr 3, [.loc 4], none, none⟩,
    ⟨.load none, [.tmp 7], none, none⟩,
    ⟨.call 53, [.tmp 0, .tmp 2, .tmp 4, .tmp 6, .tmp 8], none, none⟩,
    ⟨.mov, [.tmp 9], none, none⟩,
    ⟨.extract 0, [.tmp 10], none, none⟩,
    ⟨.extract 1, [.tmp 10], none, none⟩,
    ⟨.extract 2, [.tmp 10], none, none⟩,
    ⟨.alloc [.int .i64 0, .nils], [], some 7, none⟩,
    ⟨.alloc [.int .i64 0, .int .i64 0, .int .u64 0, .int .u64 0], [], some 8, none⟩,
    ⟨.store 2, [.tmp 14, .tmp 11], none, none⟩,
    ⟨.store 4, [.tmp 15, .tmp 12], none, none⟩,
    ⟨.mov, [.tmp 13], some 9, none⟩])
    (.seq
    (.seq
    (.region [
    ⟨.faddr 0, [.loc 4], none, none⟩,
    ⟨.load none, [.tmp 0], some 10, none⟩])
    (.block 0
    (.seq
    (.region [
    ⟨.bin .eql, [.loc 10, .c (.int .i64 1)], none, none⟩,
    ⟨.mov, [.tmp 0], some 11, none⟩])
    (.cond (.loc 11)
      (.seq
      (.draw [0, 1, 2, 3, 4, 5, 6, 7, 8, 9] 0 [
    ⟨.load (some 2), [.loc 7], none, none⟩,
    ⟨.mov, [.loc 0], none, none⟩,
    ⟨.faddr 1, [.loc 4], none, none⟩,
    ⟨.load none, [.tmp 2], none, none⟩,
    ⟨.call 24, [.tmp 1, .tmp 3], none, none⟩,
    ⟨.faddr 2, [.loc 8], none, none⟩,
    ⟨.load none, [.tmp 5], none, none⟩,
    ⟨.bin .eql, [.tmp 4, .tmp 6], none, none⟩,
    ⟨.store 2, [.loc 5, .tmp 0], none, none⟩,
    ⟨.mov, [.tmp 7], some 6, none⟩] [(0, [5]), (6, [0, 9])])
      .ret)
      (.seq
      (.region [
    ⟨.bin .eql, [.loc 10, .c (.int .i64 2)], none, none⟩,
    ⟨.mov, [.tmp 0], some 12, none⟩])
      (.cond (.loc 12)
        (.region [
    ⟨.mov, [.loc 0], none, none⟩,
    ⟨.faddr 1, [.loc 4], none, none⟩,
    ⟨.load none, [.tmp 1], none, none⟩,
    ⟨.faddr 3, [.loc 4], none, none⟩,
    ⟨.load none, [.tmp 3], none, none⟩,
    ⟨.call 22, [.tmp 0, .tmp 2, .tmp 4], none, none⟩])
        (.seq
        (.region [
    ⟨.bin .eql, [.loc 10, .c (.int .i64 3)], none, none⟩,
    ⟨.mov, [.tmp 0], some 13, none⟩])
        (.cond (.loc 13)
          (.seq
          (.draw [0, 1, 2, 3, 4, 5, 6, 7, 8, 9, 10, 11, 12, 13, 14, 15, 16, 17, 18] 0 [
    ⟨.load (some 2), [.loc 7], none, none⟩,
    ⟨.mov, [.loc 0], none, none⟩,
    ⟨.faddr 1, [.loc 4], none, none⟩,
    ⟨.load none, [.tmp 2], none, none⟩,
    ⟨.faddr 2, [.loc 4], none, none⟩,
    ⟨.load none, [.tmp 4], none, none⟩,
    ⟨.faddr 3, [.loc 4], none, none⟩,
    ⟨.load none, [.tmp 6], none, none⟩,
    ⟨.call 23, [.tmp 1, .tmp 3, .tmp 5, .tmp 7], none, none⟩,
    ⟨.mov, [.loc 9], none, none⟩,
    ⟨.mov, [.tmp 9], none, none⟩,
    ⟨.load (some 4), [.loc 8], none, some (10, true)⟩,
    ⟨.faddr 2, [.loc 4], none, some (10, true)⟩,
    ⟨.load none, [.tmp 12], none, some (10, true)⟩,
    ⟨.call 54, [.tmp 11, .tmp 13], none, some (10, true)⟩,
    ⟨.pick, [.tmp 10, .tmp 14, .c (.bool false)], none, none⟩,
    ⟨.eqv .bool false, [.tmp 8, .tmp 15], none, none⟩,
    ⟨.store 2, [.loc 5, .tmp 0], none, none⟩,
    ⟨.mov, [.tmp 16], some 6, none⟩] [(0, [9, 15]), (16, [18])])
          .ret)
          (.seq
          (.region [
    ⟨.bin .eql, [.loc 10, .c (.int .i64 4)], none, none⟩,
    ⟨.mov, [.tmp 0], some 14, none⟩])
          (.cond (.loc 14)
            (.seq
            (.draw [0, 1, 2, 3, 4, 5, 6, 7, 8, 9, 10, 11] 0 [
    ⟨.load (some 2), [.loc 7], none, none⟩,
    ⟨.mov, [.loc 0], none, none⟩,
    ⟨.faddr 1, [.loc 4], none, none⟩,
    ⟨.load none, [.tmp 2], none, none⟩,
    ⟨.faddr 3, [.loc 4], none, none⟩,
    ⟨.load none, [.tmp 4], none, none⟩,
    ⟨.call 44, [.tmp 1, .tmp 3, .tmp 5], none, none⟩,
    ⟨.faddr 2, [.loc 8], none, none⟩,
    ⟨.load none, [.tmp 7], none, none⟩,
    ⟨.bin .eql, [.tmp 6, .tmp 8], none, none⟩,
    ⟨.store 2, [.loc 5, .tmp 0], none, none⟩,
    ⟨.mov, [.tmp 9], some 6, none⟩] [(0, [7]), (8, [0, 11])])
            .ret)
            .skip))))))))))
    (.seq
    (.region [
    ⟨.load (some 2), [.loc 7], none, none⟩,
    ⟨.store 2, [.loc 5, .tmp 0], none, none⟩,
    ⟨.mov, [.c (.bool true)], some 6, none⟩])
    .ret)))) }

/-- 30 -/
def ref06_Redo : AFn := { nloc := 11, npar := 2, res := [.cell 3 (some 2), .loc 4], body :=
    (.seq
    (.region [
    ⟨.box, [.loc 0], some 2, none⟩,
    ⟨.alloc [.int .i64 0, .nils], [], some 3, none⟩,
    ⟨.mov, [.c (.int .i64 0)], some 4, none⟩])
    (.seq
    (.seq
    (.region [
    ⟨.mov, [.c (.int .i64 0)], some 5, none⟩])
    (.block 0
    (.loop
    (.seq
    (.seq
    (.region [
    ⟨.mov, [.loc 5], none, none⟩,
    ⟨.mov, [.loc 1], none, none⟩,
    ⟨.len, [.tmp 1], none, none⟩,
    ⟨.bin .lss, [.tmp 0, .tmp 2], some 8, none⟩])
    (.cond (.loc 8)
      .skip
      (.exit 0)))
    (.seq
    (.block 1
    (.seq
    (.region [
    ⟨.mov, [.loc 1], none, none⟩,
    ⟨.mov, [.loc 5], none, none⟩,
    ⟨.iaddr 4 none, [.tmp 0, .tmp 1], none, none⟩,
    ⟨.load (some 4), [.tmp 2], none, none⟩,
    ⟨.alloc [.int .i64 0, .int .i64 0, .int .u64 0, .int .u64 0], [], some 6, none⟩,
    ⟨.store 4, [.tmp 4, .tmp 3], none, none⟩])
    (.seq
    (.seq
    (.draw [0, 1, 2, 3, 4, 5, 6, 7, 8, 9, 10, 11, 12, 13, 14, 15, 16, 17, 18, 19, 20, 21, 22, 23, 24, 25, 26, 27, 28, 29, 30, 31, 32, 33, 34, 35, 36, 37, 38, 39, 40] 0 [
    ⟨.faddr 0, [.loc 6], none, none⟩,
    ⟨.load none, [.tmp 0], none, none⟩,
    ⟨.bin .lss, [.tmp 1, .c (.int .i64 1)], none, none⟩,
    ⟨.mov, [.tmp 2], none, none⟩,
    ⟨.faddr 0, [.loc 6], none, some (3, false)⟩,
    ⟨.load none, [.tmp 4], none, some (3, false)⟩,
    ⟨.bin .gtr, [.tmp 5, .c (.int .i64 4)], none, some (3, false)⟩,
    ⟨.pick, [.tmp 3, .c (.bool true), .tmp 6], none, none⟩,
    ⟨.mov, [.tmp 7], none, none⟩,
    ⟨.faddr 1, [.loc 6], none, some (8, false)⟩,
    ⟨.load none, [.tmp 9], none, some (8, false)⟩,
    ⟨.bin .lss, [.tmp 10, .c (.int .i64 0)], none, some (8, false)⟩,
    ⟨.pick, [.tmp 8, .c (.bool true), .tmp 11], none, none⟩,
    ⟨.mov, [.tmp 12], none, none⟩,
    ⟨.faddr 1, [.loc 6], none, some (13, false)⟩,
    ⟨.load none, [.tmp 14], none, some (13, false)⟩,
    ⟨.faddr 0, [.loc 2], none, some (13, false)⟩,
    ⟨.load none, [.tmp 16], none, some (13, false)⟩,
    ⟨.bin .geq, [.tmp 15, .tmp 17], none, some (13, false)⟩,
    ⟨.pick, [.tmp 13, .c (.bool true), .tmp 18], none, none⟩,
    ⟨.mov, [.tmp 19], none, none⟩,
    ⟨.load (some 2), [.loc 2], none, some (20, false)⟩,
    ⟨.faddr 1, [.loc 6], none, some (20, false)⟩,
    ⟨.load none, [.tmp 22], none, some (20, false)⟩,
    ⟨.call 55, [.tmp 21, .tmp 23], none, some (20, false)⟩,
    ⟨.faddr 2, [.loc 6], none, some (20, false)⟩,
    ⟨.load none, [.tmp 25], none, some (20, false)⟩,
    ⟨.bin .neq, [.tmp 24, .tmp 26], none, some (20, false)⟩,
    ⟨.pick, [.tmp 20, .c (.bool true), .tmp 27], none, none⟩,
    ⟨.mov, [.tmp 28], none, none⟩,
    ⟨.faddr 0, [.loc 6], none, some (29, false)⟩,
    ⟨.load none, [.tmp 30], none, some (29, false)⟩,
    ⟨.bin .eql, [.tmp 31, .c (.int .i64 1)], none, some (29, false)⟩,
    ⟨.mov, [.tmp 32], none, some (29, false)⟩,
    ⟨.faddr 3, [.loc 6], none, some (33, true)⟩,
    ⟨.load none, [.tmp 34], none, some (33, true)⟩,
    ⟨.faddr 2, [.loc 6], none, some (33, true)⟩,
    ⟨.load none, [.tmp 36], none, some (33, true)⟩,
    ⟨.bin .neq, [.tmp 35, .tmp 37], none, some (33, true)⟩,
    ⟨.pick, [.tmp 33, .tmp 38, .c (.bool false)], none, some (29, false)⟩,
    ⟨.pick, [.tmp 29, .c (.bool true), .tmp 39], some 9, none⟩] [(26, [0])])
    (.cond (.loc 9)
      (.seq
      (.region [
    ⟨.load (some 2), [.loc 2], none, none⟩,
    ⟨.mov, [.loc 5], none, none⟩,
    ⟨.store 2, [.loc 3, .tmp 0], none, none⟩,
    ⟨.mov, [.tmp 1], some 4, none⟩])
      .ret)
      .skip))
    (.seq
    (.region [
    ⟨.faddr 3, [.loc 6], none, none⟩,
    ⟨.load none, [.tmp 0], none, none⟩,
    ⟨.mov, [.tmp 1], some 7, none⟩])
    (.seq
    (.seq
    (.region [
    ⟨.faddr 0, [.loc 6], none, none⟩,
    ⟨.load none, [.tmp 0], none, none⟩,
    ⟨.bin .eql, [.tmp 1, .c (.int .i64 4)], some 10, none⟩])
    (.cond (.loc 10)
      (.region [
    ⟨.faddr 3, [.loc 6], none, none⟩,
    ⟨.load none, [.tmp 0], none, none⟩,
    ⟨.faddr 2, [.loc 6], none, none⟩,
    ⟨.load none, [.tmp 2], none, none⟩,
    ⟨.bin .sub, [.tmp 1, .tmp 3], none, none⟩,
    ⟨.mov, [.tmp 4], some 7, none⟩])
      .skip))
    (.region [
    ⟨.load (some 2), [.loc 2], none, none⟩,
    ⟨.faddr 0, [.loc 6], none, none⟩,
    ⟨.load none, [.tmp 1], none, none⟩,
    ⟨.faddr 1, [.loc 6], none, none⟩,
    ⟨.load none, [.tmp 3], none, none⟩,
    ⟨.faddr 2, [.loc 6], none, none⟩,
    ⟨.load none, [.tmp 5], none, none⟩,
    ⟨.mov, [.loc 7], none, none⟩,
    ⟨.call 53, [.tmp 0, .tmp 2, .tmp 4, .tmp 6, .tmp 7], none, none⟩,
    ⟨.mov, [.tmp 8], none, none⟩,
    ⟨.extract 0, [.tmp 9], none, none⟩,
    ⟨.extract 1, [.tmp 9], none, none⟩,
    ⟨.extract 2, [.tmp 9], none, none⟩,
    ⟨.store 2, [.loc 2, .tmp 10], none, none⟩]))))))
    (.region [
    ⟨.mov, [.loc 5], none, none⟩,
    ⟨.bin .add, [.tmp 0, .c (.int .i64 1)], none, none⟩,
    ⟨.mov, [.tmp 1], some 5, none⟩]))))))
    (.seq
    (.region [
    ⟨.load (some 2), [.loc 2], none, none⟩,
    ⟨.mov, [.loc 1], none, none⟩,
    ⟨.len, [.tmp 1], none, none⟩,
    ⟨.store 2, [.loc 3, .tmp 0], none, none⟩,
    ⟨.mov, [.tmp 2], some 4, none⟩])
    .ret))) }

/-- 29 -/
def docs_Accesses : AFn := { nloc := 5, npar := 1, res := [.loc 1], body :=
    (.seq
    (.region [
    ⟨.mov, [.c (.nils)], some 1, none⟩])
    (.seq
    (.region [
    ⟨.mov, [.c (.nils)], some 2, none⟩])
    (.seq
    (.seq
    (.region [
    ⟨.mov, [.c (.int .i64 0)], some 3, none⟩])
    (.block 0
    (.loop
    (.seq
    (.seq
    (.region [
    ⟨.mov, [.loc 3], none, none⟩,
    ⟨.mov, [.loc 0], none, none⟩,
    ⟨.len, [.tmp 1], none, none⟩,
    ⟨.bin .lss, [.tmp 0, .tmp 2], some 4, none⟩])
    (.cond (.loc 4)
      .skip
      (.exit 0)))
    (.seq
    (.block 1
    (.region [
    ⟨.mov, [.loc 2], none, none⟩,
    ⟨.mov, [.loc 0], none, none⟩,
    ⟨.mov, [.loc 3], none, none⟩,
    ⟨.iaddr 4 none, [.tmp 1, .tmp 2], none, none⟩,
    ⟨.load (some 4), [.tmp 3], none, none⟩,
    ⟨.call 38, [.tmp 4], none, none⟩,
    ⟨.lit 1 4 [.int .i64 0, .int .i64 0, .int .u64 0, .int .u64 0] [(0, 4)], [.tmp 5], none, none⟩,
    ⟨.append 4 32, [.tmp 0, .tmp 6], none, none⟩,
    ⟨.mov, [.tmp 7], some 2, none⟩]))
    (.region [
    ⟨.mov, [.loc 3], none, none⟩,
    ⟨.bin .add, [.tmp 0, .c (.int .i64 1)], none, none⟩,
    ⟨.mov, [.tmp 1], some 3, none⟩]))))))
    (.seq
    (.region [
    ⟨.mov, [.loc 2], none, none⟩,
    ⟨.mov, [.tmp 0], some 1, none⟩])
    .ret)))) }

/-- 31 -/
def cell_Redo : AFn := { nloc := 15, npar := 2, res := [.loc 2], body :=
    (.seq
    (.region [
    ⟨.mov, [.c (.int .i64 0)], some 2, none⟩])
    (.seq
    (.seq
    (.region [
    ⟨.mov, [.loc 1], some 5, none⟩,
    ⟨.len, [.tmp 0], some 6, none⟩,
    ⟨.mov, [.c (.int .i64 0)], some 7, none⟩])
    (.block 0
    (.loop
    (.seq
    (.region [
    ⟨.bin .lss, [.loc 7, .loc 6], some 8, none⟩])
    (.seq
    (.cond (.loc 8)
      .skip
      (.exit 0))
    (.seq
    (.block 1
    (.seq
    (.region [
    ⟨.mov, [.loc 7], none, none⟩,
    ⟨.iaddr 4 none, [.loc 5, .loc 7], none, none⟩,
    ⟨.load (some 4), [.tmp 1], none, none⟩,
    ⟨.alloc [.int .i64 0, .int .i64 0, .int .u64 0, .int .u64 0], [], some 4, none⟩,
    ⟨.mov, [.tmp 0], some 3, none⟩,
    ⟨.store 4, [.tmp 3, .tmp 2], none, none⟩])
    (.seq
    (.seq
    (.region [
    ⟨.mov, [.loc 0], none, none⟩,
    ⟨.faddr 1, [.loc 4], none, none⟩,
    ⟨.load none, [.tmp 1], none, none⟩,
    ⟨.call 56, [.tmp 0, .tmp 2], none, none⟩,
    ⟨.not, [.tmp 3], none, none⟩,
    ⟨.mov, [.tmp 4], none, none⟩,
    ⟨.mov, [.loc 0], none, some (5, false)⟩,
    ⟨.nilc, [.tmp 6], none, some (5, false)⟩,
    ⟨.faddr 7, [.tmp 7], none, some (5, false)⟩,
    ⟨.load none, [.tmp 8], none, some (5, false)⟩,
    ⟨.faddr 1, [.loc 4], none, some (5, false)⟩,
    ⟨.load none, [.tmp 10], none, some (5, false)⟩,
    ⟨.iaddr 1 none, [.tmp 9, .tmp 11], none, some (5, false)⟩,
    ⟨.load none, [.tmp 12], none, some (5, false)⟩,
    ⟨.faddr 2, [.loc 4], none, some (5, false)⟩,
    ⟨.load none, [.tmp 14], none, some (5, false)⟩,
    ⟨.bin .neq, [.tmp 13, .tmp 15], none, some (5, false)⟩,
    ⟨.pick, [.tmp 5, .c (.bool true), .tmp 16], none, none⟩,
    ⟨.mov, [.tmp 17], none, none⟩,
    ⟨.faddr 0, [.loc 4], none, some (18, false)⟩,
    ⟨.load none, [.tmp 19], none, some (18, false)⟩,
    ⟨.bin .eql, [.tmp 20, .c (.int .i64 1)], none, some (18, false)⟩,
    ⟨.mov, [.tmp 21], none, some (18, false)⟩,
    ⟨.load (some 4), [.loc 4], none, some (22, true)⟩,
    ⟨.faddr 1, [.loc 4], none, some (22, true)⟩,
    ⟨.load none, [.tmp 24], none, some (22, true)⟩,
    ⟨.faddr 2, [.loc 4], none, some (22, true)⟩,
    ⟨.load none, [.tmp 26], none, some (22, true)⟩,
    ⟨.faddr 2, [.loc 4], none, some (22, true)⟩,
    ⟨.load none, [.tmp 28], none, some (22, true)⟩,
    ⟨.build [.int .i64 0, .int .i64 0, .int .u64 0, .int .u64 0] [(0, 1), (1, 1), (2, 1), (3, 1)], [.c (.int .i64 1), .tmp 25, .tmp 27, .tmp 29], none, some (22, true)⟩,
    ⟨.eqv (.agg [true, true, true, true]) true, [.tmp 23, .tmp 30], none, some (22, true)⟩,
    ⟨.pick, [.tmp 22, .tmp 31, .c (.bool false)], none, some (18, false)⟩,
    ⟨.pick, [.tmp 18, .c (.bool true), .tmp 32], some 9, none⟩])
    (.cond (.loc 9)
      (.seq
      (.region [
    ⟨.mov, [.loc 3], none, none⟩,
    ⟨.mov, [.tmp 0], some 2, none⟩])
      .ret)
      .skip))
    (.seq
    (.region [
    ⟨.faddr 0, [.loc 4], none, none⟩,
    ⟨.load none, [.tmp 0], some 10, none⟩])
    (.block 2
    (.seq
    (.region [
    ⟨.bin .eql, [.loc 10, .c (.int .i64 1)], none, none⟩,
    ⟨.mov, [.tmp 0], some 11, none⟩])
    (.cond (.loc 11)
      (.region [
    ⟨.mov, [.loc 0], none, none⟩,
    ⟨.faddr 1, [.loc 4], none, none⟩,
    ⟨.load none, [.tmp 1], none, none⟩,
    ⟨.call 24, [.tmp 0, .tmp 2], none, none⟩])
      (.seq
      (.region [
    ⟨.bin .eql, [.loc 10, .c (.int .i64 2)], none, none⟩,
    ⟨.mov, [.tmp 0], some 12, none⟩])
      (.cond (.loc 12)
        (.region [
    ⟨.mov, [.loc 0], none, none⟩,
    ⟨.faddr 1, [.loc 4], none, none⟩,
    ⟨.load none, [.tmp 1], none, none⟩,
    ⟨.faddr 3, [.loc 4], none, none⟩,
    ⟨.load none, [.tmp 3], none, none⟩,
    ⟨.call 22, [.tmp 0, .tmp 2, .tmp 4], none, none⟩])
        (.seq
        (.region [
    ⟨.bin .eql, [.loc 10, .c (.int .i64 3)], none, none⟩,
    ⟨.mov, [.tmp 0], some 13, none⟩])
        (.cond (.loc 13)
          (.region [
    ⟨.mov, [.loc 0], none, none⟩,
    ⟨.faddr 1, [.loc 4], none, none⟩,
    ⟨.load none, [.tmp 1], none, none⟩,
    ⟨.faddr 2, [.loc 4], none, none⟩,
    ⟨.load none, [.tmp 3], none, none⟩,
    ⟨.faddr 3, [.loc 4], none, none⟩,
    ⟨.load none, [.tmp 5], none, none⟩,
    ⟨.call 23, [.tmp 0, .tmp 2, .tmp 4, .tmp 6], none, none⟩])
          (.seq
          (.region [
    ⟨.bin .eql, [.loc 10, .c (.int .i64 4)], none, none⟩,
    ⟨.mov, [.tmp 0], some 14, none⟩])
          (.cond (.loc 14)
            (.region [
    ⟨.mov, [.loc 0], none, none⟩,
    ⟨.faddr 1, [.loc 4], none, none⟩,
    ⟨.load none, [.tmp 1], none, none⟩,
    ⟨.faddr 3, [.loc 4], none, none⟩,
    ⟨.load none, [.tmp 3], none, none⟩,
    ⟨.faddr 2, [.loc 4], none, none⟩,
    ⟨.load none, [.tmp 5], none, none⟩,
    ⟨.bin .sub, [.tmp 4, .tmp 6], none, none⟩,
    ⟨.call 44, [.tmp 0, .tmp 2, .tmp 7], none, none⟩])
            (.seq
            (.region [
    ⟨.mov, [.loc 3], none, none⟩,
    ⟨.mov, [.tmp 0], some 2, none⟩])
            .ret))))))))))))))
    (.region [
    ⟨.bin .add, [.loc 7, .c (.int .i64 1)], none, none⟩,
    ⟨.mov, [.tmp 0], some 7, none⟩])))))))
    (.seq
    (.region [
    ⟨.mov, [.loc 1], none, none⟩,
    ⟨.len, [.tmp 0], none, none⟩,
    ⟨.mov, [.tmp 1], some 2, none⟩])
    .ret))) }

/-- 32 -/
def docs_SameBook : AFn := { nloc := 4, npar := 2, res := [.loc 3], body :=
    (.seq
    (.region [
    ⟨.box, [.loc 1], some 2, none⟩,
    ⟨.mov, [.c (.bool false)], some 3, none⟩])
    (.seq
    (.draw [0, 1, 2, 3, 4, 5, 6, 7, 8, 9, 10, 11, 12, 13, 14, 15, 16, 17, 18, 19, 20, 21, 22, 23, 24, 25, 26, 27, 28] 0 [
    ⟨.mov, [.loc 0], none, none⟩,
    ⟨.call 34, [.tmp 0], none, none⟩,
    ⟨.faddr 0, [.loc 2], none, none⟩,
    ⟨.load none, [.tmp 2], none, none⟩,
    ⟨.bin .eql, [.tmp 1, .tmp 3], none, none⟩,
    ⟨.mov, [.tmp 4], none, none⟩,
    ⟨.mov, [.loc 0], none, some (5, true)⟩,
    ⟨.call 46, [.tmp 6], none, some (5, true)⟩,
    ⟨.faddr 1, [.loc 2], none, some (5, true)⟩,
    ⟨.load none, [.tmp 8], none, some (5, true)⟩,
    ⟨.len, [.tmp 9], none, some (5, true)⟩,
    ⟨.conv .u64, [.tmp 10], none, some (5, true)⟩,
    ⟨.bin .eql, [.tmp 7, .tmp 11], none, some (5, true)⟩,
    ⟨.pick, [.tmp 5, .tmp 12, .c (.bool false)], none, none⟩,
    ⟨.mov, [.tmp 13], none, none⟩,
    ⟨.mov, [.loc 0], none, some (14, true)⟩,
    ⟨.call 47, [.tmp 15], none, some (14, true)⟩,
    ⟨.load (some 2), [.loc 2], none, some (14, true)⟩,
    ⟨.call 57, [.tmp 17], none, some (14, true)⟩,
    ⟨.call 58, [.tmp 16, .tmp 18], none, some (14, true)⟩,
    ⟨.pick, [.tmp 14, .tmp 19, .c (.bool false)], none, none⟩,
    ⟨.mov, [.tmp 20], none, none⟩,
    ⟨.mov, [.loc 0], none, some (21, true)⟩,
    ⟨.call 43, [.tmp 22], none, some (21, true)⟩,
    ⟨.load (some 2), [.loc 2], none, some (21, true)⟩,
    ⟨.call 59, [.tmp 24], none, some (21, true)⟩,
    ⟨.call 60, [.tmp 23, .tmp 25], none, some (21, true)⟩,
    ⟨.pick, [.tmp 21, .tmp 26, .c (.bool false)], none, none⟩,
    ⟨.mov, [.tmp 27], some 3, none⟩] [(3, [0]), (9, [2]), (17, [8]), (24, [20])])
    .ret)) }

/-- 34 -/
def cell_Mem_Len : AFn := { nloc := 3, npar := 1, res := [.loc 1], body :=
    (.seq
    (.region [
    ⟨.mov, [.c (.int .i64 0)], some 1, none⟩])
    (.seq
    (.seq
    (.region [
    ⟨.mov, [.loc 0], none, none⟩,
    ⟨.eqv .ptr false, [.tmp 0, .c (.nilp)], some 2, none⟩])
    (.cond (.loc 2)
      (.seq
      (.region [
    ⟨.mov, [.c (.int .i64 0)], some 1, none⟩])
      .ret)
      .skip))
    (.seq
    (.region [
    ⟨.mov, [.loc 0], none, none⟩,
    ⟨.nilc, [.tmp 0], none, none⟩,
    ⟨.faddr 7, [.tmp 1], none, none⟩,
    ⟨.load none, [.tmp 2], none, none⟩,
    ⟨.len, [.tmp 3], none, none⟩,
    ⟨.mov, [.tmp 4], some 1, none⟩])
    .ret))) }

/-- 35 -/
def cell_Mem_Copy : AFn := { nloc := 4, npar := 1, res := [.loc 1], body :=
    (.seq
    (.region [
    ⟨.mov, [.c (.nilp)], some 1, none⟩])
    (.seq
    (.seq
    (.region [
    ⟨.mov, [.loc 0], none, none⟩,
    ⟨.eqv .ptr false, [.tmp 0, .c (.nilp)], some 3, none⟩])
    (.cond (.loc 3)
      (.seq
      (.region [
    ⟨.mov, [.c (.nilp)], some 1, none⟩])
      .ret)
      .skip))
    (.seq
    (.draw [0, 1, 2, 3, 4, 5, 6, 7, 8, 9, 10, 11] 0 [
    ⟨.mov, [.loc 0], none, none⟩,
    ⟨.nilc, [.tmp 0], none, none⟩,
    ⟨.faddr 0, [.tmp 1], none, none⟩,
    ⟨.load (some 7), [.tmp 2], none, none⟩,
    ⟨.mov, [.loc 0], none, none⟩,
    ⟨.nilc, [.tmp 4], none, none⟩,
    ⟨.faddr 7, [.tmp 5], none, none⟩,
    ⟨.load none, [.tmp 6], none, none⟩,
    ⟨.call 61, [.tmp 7], none, none⟩,
    ⟨.build [.int .u64 0, .int .u64 0, .int .u64 0, .int .u64 0, .int .u64 0, .int .u64 0, .nils, .nils] [(0, 7), (7, 1)], [.tmp 3, .tmp 8], none, none⟩,
    ⟨.box, [.tmp 9], none, none⟩,
    ⟨.mov, [.tmp 10], some 2, none⟩] [(3, [9])])
    (.seq
    (.region [
    ⟨.mov, [.loc 2], none, none⟩,
    ⟨.mov, [.loc 0], none, none⟩,
    ⟨.nilc, [.tmp 1], none, none⟩,
    ⟨.faddr 0, [.tmp 2], none, none⟩,
    ⟨.faddr 6, [.tmp 3], none, none⟩,
    ⟨.load none, [.tmp 4], none, none⟩,
    ⟨.call 62, [.tmp 5], none, none⟩,
    ⟨.nilc, [.tmp 0], none, none⟩,
    ⟨.faddr 0, [.tmp 7], none, none⟩,
    ⟨.faddr 6, [.tmp 8], none, none⟩,
    ⟨.store 1, [.tmp 9, .tmp 6], none, none⟩])
    (.seq
    (.region [
    ⟨.mov, [.loc 2], none, none⟩,
    ⟨.mov, [.tmp 0], some 1, none⟩])
    .ret))))) }

/-- 36 -/
def cell_Mem_Last : AFn := { nloc := 4, npar := 1, res := [.cell 1 (some 4), .loc 2], body :=
    (.seq
    (.region [
    ⟨.alloc [.int .i64 0, .int .i64 0, .int .u64 0, .int .u64 0], [], some 1, none⟩,
    ⟨.mov, [.c (.bool false)], some 2, none⟩])
    (.seq
    (.seq
    (.region [
    ⟨.mov, [.loc 0], none, none⟩,
    ⟨.eqv .ptr false, [.tmp 0, .c (.nilp)], none, none⟩,
    ⟨.mov, [.tmp 1], none, none⟩,
    ⟨.mov, [.loc 0], none, some (2, false)⟩,
    ⟨.nilc, [.tmp 3], none, some (2, false)⟩,
    ⟨.faddr 0, [.tmp 4], none, some (2, false)⟩,
    ⟨.faddr 6, [.tmp 5], none, some (2, false)⟩,
    ⟨.load none, [.tmp 6], none, some (2, false)⟩,
    ⟨.len, [.tmp 7], none, some (2, false)⟩,
    ⟨.bin .eql, [.tmp 8, .c (.int .i64 0)], none, some (2, false)⟩,
    ⟨.pick, [.tmp 2, .c (.bool true), .tmp 9], some 3, none⟩])
    (.cond (.loc 3)
      (.seq
      (.region [
    ⟨.build [.int .i64 0, .int .i64 0, .int .u64 0, .int .u64 0] [], [], none, none⟩,
    ⟨.store 4, [.loc 1, .tmp 0], none, none⟩,
    ⟨.mov, [.c (.bool false)], some 2, none⟩])
      .ret)
      .skip))
    (.seq
    (.region [
    ⟨.mov, [.loc 0], none, none⟩,
    ⟨.nilc, [.tmp 0], none, none⟩,
    ⟨.faddr 0, [.tmp 1], none, none⟩,
    ⟨.faddr 6, [.tmp 2], none, none⟩,
    ⟨.load none, [.tmp 3], none, none⟩,
    ⟨.mov, [.loc 0], none, none⟩,
    ⟨.nilc, [.tmp 5], none, none⟩,
    ⟨.faddr 0, [.tmp 6], none, none⟩,
    ⟨.faddr 6, [.tmp 7], none, none⟩,
    ⟨.load none, [.tmp 8], none, none⟩,
    ⟨.len, [.tmp 9], none, none⟩,
    ⟨.bin .sub, [.tmp 10, .c (.int .i64 1)], none, none⟩,
    ⟨.iaddr 4 none, [.tmp 4, .tmp 11], none, none⟩,
    ⟨.load (some 4), [.tmp 12], none, none⟩,
    ⟨.store 4, [.loc 1, .tmp 13], none, none⟩,
    ⟨.mov, [.c (.bool true)], some 2, none⟩])
    .ret))) }

/-- 37 -/
def law06_mems : AFn := { nloc := 12, npar := 3, res := [.loc 3], body :=
    (.seq
    (.region [
    ⟨.mov, [.c (.bool false)], some 3, none⟩])
    (.seq
    (.region [
    ⟨.mov, [.loc 1], none, none⟩,
    ⟨.call 63, [.tmp 0], none, none⟩,
    ⟨.alloc [.nils, .int .u64 0], [], some 4, none⟩,
    ⟨.store 2, [.tmp 2, .tmp 1], none, none⟩])
    (.seq
    (.seq
    (.region [
    ⟨.mov, [.c (.int .i64 0)], some 5, none⟩])
    (.block 0
    (.loop
    (.seq
    (.seq
    (.region [
    ⟨.mov, [.loc 5], none, none⟩,
    ⟨.mov, [.loc 2], none, none⟩,
    ⟨.len, [.tmp 1], none, none⟩,
    ⟨.bin .lss, [.tmp 0, .tmp 2], some 6, none⟩])
    (.cond (.loc 6)
      .skip
      (.exit 0)))
    (.seq
    (.block 1
    (.seq
    (.region [
    ⟨.mov, [.loc 2], none, none⟩,
    ⟨.mov, [.loc 5], none, none⟩,
    ⟨.iaddr 4 none, [.tmp 0, .tmp 1], none, none⟩,
    ⟨.faddr 0, [.tmp 2], none, none⟩,
    ⟨.load none, [.tmp 3], some 7, none⟩])
    (.block 2
    (.seq
    (.region [
    ⟨.bin .eql, [.loc 7, .c (.int .i64 1)], none, none⟩,
    ⟨.mov, [.tmp 0], some 8, none⟩])
    (.cond (.loc 8)
      (.region [
    ⟨.load (some 2), [.loc 4], none, none⟩,
    ⟨.mov, [.loc 2], none, none⟩,
    ⟨.mov, [.loc 5], none, none⟩,
    ⟨.iaddr 4 none, [.tmp 1, .tmp 2], none, none⟩,
    ⟨.faddr 1, [.tmp 3], none, none⟩,
    ⟨.load none, [.tmp 4], none, none⟩,
    ⟨.call 64, [.tmp 0, .tmp 5], none, none⟩,
    ⟨.mov, [.tmp 6], none, none⟩,
    ⟨.extract 0, [.tmp 7], none, none⟩,
    ⟨.extract 1, [.tmp 7], none, none⟩,
    ⟨.store 2, [.loc 4, .tmp 8], none, none⟩])
      (.seq
      (.region [
    ⟨.bin .eql, [.loc 7, .c (.int .i64 2)], none, none⟩,
    ⟨.mov, [.tmp 0], some 9, none⟩])
      (.cond (.loc 9)
        (.region [
    ⟨.load (some 2), [.loc 4], none, none⟩,
    ⟨.mov, [.loc 2], none, none⟩,
    ⟨.mov, [.loc 5], none, none⟩,
    ⟨.iaddr 4 none, [.tmp 1, .tmp 2], none, none⟩,
    ⟨.faddr 1, [.tmp 3], none, none⟩,
    ⟨.load none, [.tmp 4], none, none⟩,
    ⟨.mov, [.loc 2], none, none⟩,
    ⟨.mov, [.loc 5], none, none⟩,
    ⟨.iaddr 4 none, [.tmp 6, .tmp 7], none, none⟩,
    ⟨.faddr 3, [.tmp 8], none, none⟩,
    ⟨.load none, [.tmp 9], none, none⟩,
    ⟨.call 65, [.tmp 0, .tmp 5, .tmp 10], none, none⟩,
    ⟨.store 2, [.loc 4, .tmp 11], none, none⟩])
        (.seq
        (.region [
    ⟨.bin .eql, [.loc 7, .c (.int .i64 3)], none, none⟩,
    ⟨.mov, [.tmp 0], some 10, none⟩])
        (.cond (.loc 10)
          (.region [
    ⟨.load (some 2), [.loc 4], none, none⟩,
    ⟨.mov, [.loc 2], none, none⟩,
    ⟨.mov, [.loc 5], none, none⟩,
    ⟨.iaddr 4 none, [.tmp 1, .tmp 2], none, none⟩,
    ⟨.faddr 1, [.tmp 3], none, none⟩,
    ⟨.load none, [.tmp 4], none, none⟩,
    ⟨.mov, [.loc 2], none, none⟩,
    ⟨.mov, [.loc 5], none, none⟩,
    ⟨.iaddr 4 none, [.tmp 6, .tmp 7], none, none⟩,
    ⟨.faddr 2, [.tmp 8], none, none⟩,
    ⟨.load none, [.tmp 9], none, none⟩,
    ⟨.mov, [.loc 2], none, none⟩,
    ⟨.mov, [.loc 5], none, none⟩,
    ⟨.iaddr 4 none, [.tmp 11, .tmp 12], none, none⟩,
    ⟨.faddr 3, [.tmp 13], none, none⟩,
    ⟨.load none, [.tmp 14], none, none⟩,
    ⟨.call 66, [.tmp 0, .tmp 5, .tmp 10, .tmp 15], none, none⟩,
    ⟨.mov, [.tmp 16], none, none⟩,
    ⟨.extract 0, [.tmp 17], none, none⟩,
    ⟨.extract 1, [.tmp 17], none, none⟩,
    ⟨.store 2, [.loc 4, .tmp 18], none, none⟩])
          (.seq
          (.region [
    ⟨.bin .eql, [.loc 7, .c (.int .i64 4)], none, none⟩,
    ⟨.mov, [.tmp 0], some 11, none⟩])
          (.cond (.loc 11)
            (.region [
    ⟨.load (some 2), [.loc 4], none, none⟩,
    ⟨.mov, [.loc 2], none, none⟩,
    ⟨.mov, [.loc 5], none, none⟩,
    ⟨.iaddr 4 none, [.tmp 1, .tmp 2], none, none⟩,
    ⟨.faddr 1, [.tmp 3], none, none⟩,
    ⟨.load none, [.tmp 4], none, none⟩,
    ⟨.mov, [.loc 2], none, none⟩,
    ⟨.mov, [.loc 5], none, none⟩,
    ⟨.iaddr 4 none, [.tmp 6, .tmp 7], none, none⟩,
    ⟨.faddr 3, [.tmp 8], none, none⟩,
    ⟨.load none, [.tmp 9], none, none⟩,
    ⟨.call 67, [.tmp 0, .tmp 5, .tmp 10], none, none⟩,
    ⟨.mov, [.tmp 11], none, none⟩,
    ⟨.extract 0, [.tmp 12], none, none⟩,
    ⟨.extract 1, [.tmp 12], none, none⟩,
    ⟨.store 2, [.loc 4, .tmp 13], none, none⟩])
            .skip)))))))))))
    (.region [
    ⟨.mov, [.loc 5], none, none⟩,
    ⟨.bin .add, [.tmp 0, .c (.int .i64 1)], none, none⟩,
    ⟨.mov, [.tmp 1], some 5, none⟩]))))))
    (.seq
    (.region [
    ⟨.mov, [.loc 0], none, none⟩,
    ⟨.load (some 2), [.loc 4], none, none⟩,
    ⟨.call 68, [.tmp 0, .tmp 1], none, none⟩,
    ⟨.mov, [.tmp 2], some 3, none⟩])
    .ret)))) }

/-- 38 -/
def docs_Access : AFn := { nloc := 3, npar := 1, res := [.cell 2 (some 4)], body :=
    (.seq
    (.region [
    ⟨.box, [.loc 0], some 1, none⟩,
    ⟨.alloc [.int .i64 0, .int .i64 0, .int .u64 0, .int .u64 0], [], some 2, none⟩])
    (.seq
    (.region [
    ⟨.faddr 0, [.loc 1], none, none⟩,
    ⟨.load none, [.tmp 0], none, none⟩,
    ⟨.faddr 1, [.loc 1], none, none⟩,
    ⟨.load none, [.tmp 2], none, none⟩,
    ⟨.faddr 2, [.loc 1], none, none⟩,
    ⟨.load none, [.tmp 4], none, none⟩,
    ⟨.faddr 3, [.loc 1], none, none⟩,
    ⟨.load none, [.tmp 6], none, none⟩,
    ⟨.build [.int .i64 0, .int .i64 0, .int .u64 0, .int .u64 0] [(0, 1), (1, 1), (2, 1), (3, 1)], [.tmp 1, .tmp 3, .tmp 5, .tmp 7], none, none⟩,
    ⟨.store 4, [.loc 2, .tmp 8], none, none⟩])
    .ret)) }

/-- 39 -/
def cell_Mem_Count : AFn := { nloc := 3, npar := 1, res := [.cell 1 (some 5)], body :=
    (.seq
    (.region [
    ⟨.alloc [.int .u64 0, .int .u64 0, .int .u64 0, .int .u64 0, .int .u64 0], [], some 1, none⟩])
    (.seq
    (.seq
    (.region [
    ⟨.mov, [.loc 0], none, none⟩,
    ⟨.eqv .ptr false, [.tmp 0, .c (.nilp)], some 2, none⟩])
    (.cond (.loc 2)
      (.seq
      (.region [
    ⟨.build [.int .u64 0, .int .u64 0, .int .u64 0, .int .u64 0, .int .u64 0] [], [], none, none⟩,
    ⟨.store 5, [.loc 1, .tmp 0], none, none⟩])
      .ret)
      .skip))
    (.seq
    (.region [
    ⟨.mov, [.loc 0], none, none⟩,
    ⟨.nilc, [.tmp 0], none, none⟩,
    ⟨.faddr 0, [.tmp 1], none, none⟩,
    ⟨.faddr 1, [.tmp 2], none, none⟩,
    ⟨.load (some 5), [.tmp 3], none, none⟩,
    ⟨.store 5, [.loc 1, .tmp 4], none, none⟩])
    .ret))) }

/-- 40 -/
def law06_count : AFn := { nloc := 16, npar := 2, res := [.cell 2 (some 5)], body :=
    (.seq
    (.region [
    ⟨.alloc [.int .u64 0, .int .u64 0, .int .u64 0, .int .u64 0, .int .u64 0], [], some 2, none⟩])
    (.seq
    (.region [
    ⟨.mov, [.loc 0], none, none⟩,
    ⟨.call 27, [.tmp 0], none, none⟩,
    ⟨.alloc [.int .i64 0, .nils], [], some 3, none⟩,
    ⟨.store 2, [.tmp 2, .tmp 1], none, none⟩])
    (.seq
    (.region [
    ⟨.alloc [.int .u64 0, .int .u64 0, .int .u64 0, .int .u64 0, .int .u64 0], [], some 4, none⟩])
    (.seq
    (.seq
    (.region [
    ⟨.mov, [.c (.int .i64 0)], some 5, none⟩])
    (.block 0
    (.loop
    (.seq
    (.seq
    (.region [
    ⟨.mov, [.loc 5], none, none⟩,
    ⟨.mov, [.loc 1], none, none⟩,
    ⟨.len, [.tmp 1], none, none⟩,
    ⟨.bin .lss, [.tmp 0, .tmp 2], some 9, none⟩])
    (.cond (.loc 9)
      .skip
      (.exit 0)))
    (.seq
    (.block 1
    (.seq
    (.draw [26, 27, 0, 1, 2, 3, 4, 5, 6, 7, 8, 9, 10, 11, 12, 13, 14, 15, 16, 17, 18, 19, 20, 21, 22, 23, 24, 25, 28, 29, 30] 2 [
    ⟨.alloc [.int .i64 0, .nils], [], some 6, none⟩,
    ⟨.alloc [.int .i64 0, .int .i64 0, .int .u64 0, .int .u64 0], [], some 7, none⟩,
    ⟨.load (some 2), [.loc 3], none, none⟩,
    ⟨.mov, [.loc 1], none, none⟩,
    ⟨.mov, [.loc 5], none, none⟩,
    ⟨.iaddr 4 none, [.tmp 3, .tmp 4], none, none⟩,
    ⟨.faddr 0, [.tmp 5], none, none⟩,
    ⟨.load none, [.tmp 6], none, none⟩,
    ⟨.mov, [.loc 1], none, none⟩,
    ⟨.mov, [.loc 5], none, none⟩,
    ⟨.iaddr 4 none, [.tmp 8, .tmp 9], none, none⟩,
    ⟨.faddr 1, [.tmp 10], none, none⟩,
    ⟨.load none, [.tmp 11], none, none⟩,
    ⟨.mov, [.loc 1], none, none⟩,
    ⟨.mov, [.loc 5], none, none⟩,
    ⟨.iaddr 4 none, [.tmp 13, .tmp 14], none, none⟩,
    ⟨.faddr 2, [.tmp 15], none, none⟩,
    ⟨.load none, [.tmp 16], none, none⟩,
    ⟨.mov, [.loc 1], none, none⟩,
    ⟨.mov, [.loc 5], none, none⟩,
    ⟨.iaddr 4 none, [.tmp 18, .tmp 19], none, none⟩,
    ⟨.faddr 3, [.tmp 20], none, none⟩,
    ⟨.load none, [.tmp 21], none, none⟩,
    ⟨.call 53, [.tmp 2, .tmp 7, .tmp 12, .tmp 17, .tmp 22], none, none⟩,
    ⟨.mov, [.tmp 23], none, none⟩,
    ⟨.extract 0, [.tmp 24], none, none⟩,
    ⟨.extract 1, [.tmp 24], none, none⟩,
    ⟨.extract 2, [.tmp 24], none, none⟩,
    ⟨.store 2, [.tmp 0, .tmp 25], none, none⟩,
    ⟨.store 4, [.tmp 1, .tmp 26], none, none⟩,
    ⟨.mov, [.tmp 27], some 8, none⟩] [(0, [2, 24]), (1, [2, 24])])
    (.seq
    (.region [
    ⟨.load (some 2), [.loc 6], none, none⟩,
    ⟨.store 2, [.loc 3, .tmp 0], none, none⟩])
    (.seq
    (.seq
    (.region [
    ⟨.mov, [.loc 8], none, none⟩,
    ⟨.not, [.tmp 0], some 10, none⟩])
    (.cond (.loc 10)
      (.exit 1)
      .skip))
    (.seq
    (.region [
    ⟨.faddr 0, [.loc 7], none, none⟩,
    ⟨.load none, [.tmp 0], some 11, none⟩])
    (.block 2
    (.seq
    (.region [
    ⟨.bin .eql, [.loc 11, .c (.int .i64 1)], none, none⟩,
    ⟨.mov, [.tmp 0], some 12, none⟩])
    (.cond (.loc 12)
      (.region [
    ⟨.faddr 0, [.loc 4], none, none⟩,
    ⟨.load none, [.tmp 0], none, none⟩,
    ⟨.bin .add, [.tmp 1, .c (.int .u64 1)], none, none⟩,
    ⟨.faddr 0, [.loc 4], none, none⟩,
    ⟨.store 1, [.tmp 3, .tmp 2], none, none⟩])
      (.seq
      (.region [
    ⟨.bin .eql, [.loc 11, .c (.int .i64 2)], none, none⟩,
    ⟨.mov, [.tmp 0], some 13, none⟩])
      (.cond (.loc 13)
        (.region [
    ⟨.faddr 1, [.loc 4], none, none⟩,
    ⟨.load none, [.tmp 0], none, none⟩,
    ⟨.bin .add, [.tmp 1, .c (.int .u64 1)], none, none⟩,
    ⟨.faddr 1, [.loc 4], none, none⟩,
    ⟨.store 1, [.tmp 3, .tmp 2], none, none⟩])
        (.seq
        (.region [
    ⟨.bin .eql, [.loc 11, .c (.int .i64 3)], none, none⟩,
    ⟨.mov, [.tmp 0], some 14, none⟩])
        (.cond (.loc 14)
          (.seq
          (.region [
    ⟨.load (some 4), [.loc 7], none, none⟩,
    ⟨.mov, [.loc 1], none, none⟩,
    ⟨.mov, [.loc 5], none, none⟩,
    ⟨.iaddr 4 none, [.tmp 1, .tmp 2], none, none⟩,
    ⟨.faddr 2, [.tmp 3], none, none⟩,
    ⟨.load none, [.tmp 4], none, none⟩,
    ⟨.call 54, [.tmp 0, .tmp 5], some 15, none⟩])
          (.cond (.loc 15)
            (.region [
    ⟨.faddr 2, [.loc 4], none, none⟩,
    ⟨.load none, [.tmp 0], none, none⟩,
    ⟨.bin .add, [.tmp 1, .c (.int .u64 1)], none, none⟩,
    ⟨.faddr 2, [.loc 4], none, none⟩,
    ⟨.store 1, [.tmp 3, .tmp 2], none, none⟩])
            (.region [
    ⟨.faddr 3, [.loc 4], none, none⟩,
    ⟨.load none, [.tmp 0], none, none⟩,
    ⟨.bin .add, [.tmp 1, .c (.int .u64 1)], none, none⟩,
    ⟨.faddr 3, [.loc 4], none, none⟩,
    ⟨.store 1, [.tmp 3, .tmp 2], none, none⟩])))
          (.region [
    ⟨.faddr 4, [.loc 4], none, none⟩,
    ⟨.load none, [.tmp 0], none, none⟩,
    ⟨.bin .add, [.tmp 1, .c (.int .u64 1)], none, none⟩,
    ⟨.faddr 4, [.loc 4], none, none⟩,
    ⟨.store 1, [.tmp 3, .tmp 2], none, none⟩])))))))))))))
    (.region [
    ⟨.mov, [.loc 5], none, none⟩,
    ⟨.bin .add, [.tmp 0, .c (.int .i64 1)], none, none⟩,
    ⟨.mov, [.tmp 1], some 5, none⟩]))))))
    (.seq
    (.region [
    ⟨.load (some 5), [.loc 4], none, none⟩,
    ⟨.store 5, [.loc 2, .tmp 0], none, none⟩])
    .ret))))) }

/-- 41 -/
def cell_Same : AFn := { nloc := 3, npar := 2, res := [.loc 2], body :=
    (.seq
    (.region [
    ⟨.mov, [.c (.bool false)], some 2, none⟩])
    (.seq
    (.region [
    ⟨.mov, [.loc 0], none, none⟩,
    ⟨.call 47, [.tmp 0], none, none⟩,
    ⟨.mov, [.loc 1], none, none⟩,
    ⟨.call 47, [.tmp 2], none, none⟩,
    ⟨.call 69, [.tmp 1, .tmp 3], none, none⟩,
    ⟨.mov, [.tmp 4], some 2, none⟩])
    .ret)) }

/-- 43 -/
def cell_Mem_Log : AFn := { nloc := 3, npar := 1, res := [.loc 1], body :=
    (.seq
    (.region [
    ⟨.mov, [.c (.nils)], some 1, none⟩])
    (.seq
    (.seq
    (.region [
    ⟨.mov, [.loc 0], none, none⟩,
    ⟨.eqv .ptr false, [.tmp 0, .c (.nilp)], some 2, none⟩])
    (.cond (.loc 2)
      (.seq
      (.region [
    ⟨.mov, [.c (.nils)], some 1, none⟩])
      .ret)
      .skip))
    (.seq
    (.region [
    ⟨.mov, [.loc 0], none, none⟩,
    ⟨.nilc, [.tmp 0], none, none⟩,
    ⟨.faddr 0, [.tmp 1], none, none⟩,
    ⟨.faddr 6, [.tmp 2], none, none⟩,
    ⟨.load none, [.tmp 3], none, none⟩,
    ⟨.call 62, [.tmp 4], none, none⟩,
    ⟨.mov, [.tmp 5], some 1, none⟩])
    .ret))) }

/-- 44 -/
def cell_Mem_Add : AFn := { nloc := 6, npar := 3, res := [.loc 4], body :=
    (.seq
    (.region [
    ⟨.box, [.loc 2], some 3, none⟩,
    ⟨.mov, [.c (.int .u64 0)], some 4, none⟩])
    (.seq
    (.region [
    ⟨.mov, [.loc 0], none, none⟩,
    ⟨.mov, [.loc 1], none, none⟩,
    ⟨.mkfn 70 0, [.loc 3], none, none⟩,
    ⟨.call 50, [.tmp 0, .c (.int .i64 4), .tmp 1, .tmp 2], none, none⟩,
    ⟨.mov, [.tmp 3], none, none⟩,
    ⟨.extract 0, [.tmp 4], none, none⟩,
    ⟨.extract 1, [.tmp 4], none, none⟩,
    ⟨.mov, [.tmp 5], some 5, none⟩,
    ⟨.mov, [.tmp 6], none, none⟩])
    (.seq
    (.region [
    ⟨.mov, [.loc 5], none, none⟩,
    ⟨.mov, [.tmp 0], some 4, none⟩])
    .ret))) }

/-- 46 -/
def cell_Mem_Ops : AFn := { nloc := 3, npar := 1, res := [.loc 1], body :=
    (.seq
    (.region [
    ⟨.mov, [.c (.int .u64 0)], some 1, none⟩])
    (.seq
    (.seq
    (.region [
    ⟨.mov, [.loc 0], none, none⟩,
    ⟨.eqv .ptr false, [.tmp 0, .c (.nilp)], some 2, none⟩])
    (.cond (.loc 2)
      (.seq
      (.region [
    ⟨.mov, [.c (.int .u64 0)], some 1, none⟩])
      .ret)
      .skip))
    (.seq
    (.region [
    ⟨.mov, [.loc 0], none, none⟩,
    ⟨.nilc, [.tmp 0], none, none⟩,
    ⟨.faddr 0, [.tmp 1], none, none⟩,
    ⟨.faddr 0, [.tmp 2], none, none⟩,
    ⟨.load none, [.tmp 3], none, none⟩,
    ⟨.mov, [.tmp 4], some 1, none⟩])
    .ret))) }

/-- 47 -/
def cell_Mem_All : AFn := { nloc := 3, npar := 1, res := [.loc 1], body :=
    (.seq
    (.region [
    ⟨.mov, [.c (.nils)], some 1, none⟩])
    (.seq
    (.seq
    (.region [
    ⟨.mov, [.loc 0], none, none⟩,
    ⟨.eqv .ptr false, [.tmp 0, .c (.nilp)], some 2, none⟩])
    (.cond (.loc 2)
      (.seq
      (.region [
    ⟨.mov, [.c (.nils)], some 1, none⟩])
      .ret)
      .skip))
    (.seq
    (.region [
    ⟨.mov, [.loc 0], none, none⟩,
    ⟨.nilc, [.tmp 0], none, none⟩,
    ⟨.faddr 7, [.tmp 1], none, none⟩,
    ⟨.load none, [.tmp 2], none, none⟩,
    ⟨.call 61, [.tmp 3], none, none⟩,
    ⟨.mov, [.tmp 4], some 1, none⟩])
    .ret))) }

/-- 50 -/
def cell_Mem_access : AFn := { nloc := 8, npar := 4, res := [.loc 4, .loc 5], body :=
    (.seq
    (.region [
    ⟨.mov, [.c (.int .u64 0)], some 4, none⟩,
    ⟨.mov, [.c (.bool false)], some 5, none⟩])
    (.seq
    (.seq
    (.region [
    ⟨.mov, [.loc 0], none, none⟩,
    ⟨.mov, [.loc 2], none, none⟩,
    ⟨.call 56, [.tmp 0, .tmp 1], none, none⟩,
    ⟨.not, [.tmp 2], some 7, none⟩])
    (.cond (.loc 7)
      (.seq
      (.region [
    ⟨.mov, [.c (.int .u64 0)], some 4, none⟩,
    ⟨.mov, [.c (.bool false)], some 5, none⟩])
      .ret)
      .skip))
    (.seq
    (.region [
    ⟨.mov, [.loc 0], none, none⟩,
    ⟨.nilc, [.tmp 0], none, none⟩,
    ⟨.faddr 7, [.tmp 1], none, none⟩,
    ⟨.load none, [.tmp 2], none, none⟩,
    ⟨.mov, [.loc 2], none, none⟩,
    ⟨.iaddr 1 none, [.tmp 3, .tmp 4], none, none⟩,
    ⟨.load none, [.tmp 5], none, none⟩,
    ⟨.mov, [.tmp 6], some 4, none⟩])
    (.seq
    (.region [
    ⟨.mov, [.loc 3], none, none⟩,
    ⟨.mov, [.loc 4], none, none⟩,
    ⟨.callv, [.tmp 0, .tmp 1], none, none⟩,
    ⟨.mov, [.tmp 2], none, none⟩,
    ⟨.extract 0, [.tmp 3], none, none⟩,
    ⟨.extract 1, [.tmp 3], none, none⟩,
    ⟨.mov, [.tmp 4], some 6, none⟩,
    ⟨.mov, [.tmp 5], some 5, none⟩])
    (.seq
    (.region [
    ⟨.mov, [.loc 0], none, none⟩,
    ⟨.nilc, [.tmp 0], none, none⟩,
    ⟨.faddr 7, [.tmp 1], none, none⟩,
    ⟨.load none, [.tmp 2], none, none⟩,
    ⟨.mov, [.loc 2], none, none⟩,
    ⟨.mov, [.loc 6], none, none⟩,
    ⟨.iaddr 1 none, [.tmp 3, .tmp 4], none, none⟩,
    ⟨.store 1, [.tmp 6, .tmp 5], none, none⟩])
    (.seq
    (.region [
    ⟨.mov, [.loc 0], none, none⟩,
    ⟨.nilc, [.tmp 0], none, none⟩,
    ⟨.faddr 0, [.tmp 1], none, none⟩,
    ⟨.mov, [.loc 1], none, none⟩,
    ⟨.mov, [.loc 2], none, none⟩,
    ⟨.mov, [.loc 4], none, none⟩,
    ⟨.mov, [.loc 6], none, none⟩,
    ⟨.build [.int .i64 0, .int .i64 0, .int .u64 0, .int .u64 0] [(0, 1), (1, 1), (2, 1), (3, 1)], [.tmp 3, .tmp 4, .tmp 5, .tmp 6], none, none⟩,
    ⟨.mov, [.loc 5], none, none⟩,
    ⟨.call 71, [.tmp 2, .tmp 7, .tmp 8], none, none⟩])
    (.seq
    (.region [
    ⟨.mov, [.loc 4], none, none⟩,
    ⟨.mov, [.loc 5], none, none⟩,
    ⟨.mov, [.tmp 0], some 4, none⟩,
    ⟨.mov, [.tmp 1], some 5, none⟩])
    .ret))))))) }

/-- 49 -/
def cell_Mem_Store_1 : AFn := { nloc := 4, npar := 2, res := [.loc 2, .loc 3], body :=
    (.seq
    (.region [
    ⟨.mov, [.c (.int .u64 0)], some 2, none⟩,
    ⟨.mov, [.c (.bool false)], some 3, none⟩])
    (.seq
    (.region [
    ⟨.load none, [.loc 1], none, none⟩,
    ⟨.mov, [.tmp 0], some 2, none⟩,
    ⟨.mov, [.c (.bool true)], some 3, none⟩])
    .ret)) }

/-- 51 -/
def cell_Mem_CAS_1 : AFn := { nloc := 6, npar := 3, res := [.loc 3, .loc 4], body :=
    (.seq
    (.region [
    ⟨.mov, [.c (.int .u64 0)], some 3, none⟩,
    ⟨.mov, [.c (.bool false)], some 4, none⟩])
    (.seq
    (.seq
    (.region [
    ⟨.mov, [.loc 0], none, none⟩,
    ⟨.load none, [.loc 1], none, none⟩,
    ⟨.bin .neq, [.tmp 0, .tmp 1], some 5, none⟩])
    (.cond (.loc 5)
      (.seq
      (.region [
    ⟨.mov, [.loc 0], none, none⟩,
    ⟨.mov, [.tmp 0], some 3, none⟩,
    ⟨.mov, [.c (.bool false)], some 4, none⟩])
      .ret)
      .skip))
    (.seq
    (.region [
    ⟨.load none, [.loc 2], none, none⟩,
    ⟨.mov, [.tmp 0], some 3, none⟩,
    ⟨.mov, [.c (.bool true)], some 4, none⟩])
    .ret))) }

/-- 52 -/
def cell_Mem_Load_1 : AFn := { nloc := 3, npar := 1, res := [.loc 1, .loc 2], body :=
    (.seq
    (.region [
    ⟨.mov, [.c (.int .u64 0)], some 1, none⟩,
    ⟨.mov, [.c (.bool false)], some 2, none⟩])
    (.seq
    (.region [
    ⟨.mov, [.loc 0], none, none⟩,
    ⟨.mov, [.tmp 0], some 1, none⟩,
    ⟨.mov, [.c (.bool true)], some 2, none⟩])
    .ret)) }

/-- 53 -/
def ref06_Do : AFn := { nloc := 15, npar := 5, res := [.cell 6 (some 2), .cell 7 (some 4), .loc 8], body :=
    (.seq
    (.region [
    ⟨.box, [.loc 0], some 5, none⟩,
    ⟨.alloc [.int .i64 0, .nils], [], some 6, none⟩,
    ⟨.alloc [.int .i64 0, .int .i64 0, .int .u64 0, .int .u64 0], [], some 7, none⟩,
    ⟨.mov, [.c (.bool false)], some 8, none⟩])
    (.seq
    (.seq
    (.region [
    ⟨.mov, [.loc 2], none, none⟩,
    ⟨.bin .lss, [.tmp 0, .c (.int .i64 0)], none, none⟩,
    ⟨.mov, [.tmp 1], none, none⟩,
    ⟨.mov, [.loc 2], none, some (2, false)⟩,
    ⟨.faddr 0, [.loc 5], none, some (2, false)⟩,
    ⟨.load none, [.tmp 4], none, some (2, false)⟩,
    ⟨.bin .geq, [.tmp 3, .tmp 5], none, some (2, false)⟩,
    ⟨.pick, [.tmp 2, .c (.bool true), .tmp 6], none, none⟩,
    ⟨.mov, [.tmp 7], none, none⟩,
    ⟨.mov, [.loc 1], none, some (8, false)⟩,
    ⟨.bin .lss, [.tmp 9, .c (.int .i64 1)], none, some (8, false)⟩,
    ⟨.pick, [.tmp 8, .c (.bool true), .tmp 10], none, none⟩,
    ⟨.mov, [.tmp 11], none, none⟩,
    ⟨.mov, [.loc 1], none, some (12, false)⟩,
    ⟨.bin .gtr, [.tmp 13, .c (.int .i64 4)], none, some (12, false)⟩,
    ⟨.pick, [.tmp 12, .c (.bool true), .tmp 14], some 12, none⟩])
    (.cond (.loc 12)
      (.seq
      (.region [
    ⟨.load (some 2), [.loc 5], none, none⟩,
    ⟨.build [.int .i64 0, .int .i64 0, .int .u64 0, .int .u64 0] [], [], none, none⟩,
    ⟨.store 2, [.loc 6, .tmp 0], none, none⟩,
    ⟨.store 4, [.loc 7, .tmp 1], none, none⟩,
    ⟨.mov, [.c (.bool false)], some 8, none⟩])
      .ret)
      .skip))
    (.seq
    (.region [
    ⟨.load (some 2), [.loc 5], none, none⟩,
    ⟨.mov, [.loc 2], none, none⟩,
    ⟨.call 55, [.tmp 0, .tmp 1], none, none⟩,
    ⟨.mov, [.tmp 2], some 9, none⟩])
    (.seq
    (.region [
    ⟨.mov, [.loc 1], none, none⟩,
    ⟨.mov, [.loc 2], none, none⟩,
    ⟨.mov, [.loc 9], none, none⟩,
    ⟨.mov, [.loc 9], none, none⟩,
    ⟨.build [.int .i64 0, .int .i64 0, .int .u64 0, .int .u64 0] [(0, 1), (1, 1), (2, 1), (3, 1)], [.tmp 0, .tmp 1, .tmp 2, .tmp 3], none, none⟩,
    ⟨.alloc [.int .i64 0, .int .i64 0, .int .u64 0, .int .u64 0], [], some 10, none⟩,
    ⟨.store 4, [.tmp 5, .tmp 4], none, none⟩])
    (.seq
    (.seq
    (.region [
    ⟨.mov, [.loc 1], none, none⟩,
    ⟨.bin .eql, [.tmp 0, .c (.int .i64 2)], none, none⟩,
    ⟨.mov, [.tmp 1], none, none⟩,
    ⟨.mov, [.loc 1], none, some (2, false)⟩,
    ⟨.bin .eql, [.tmp 3, .c (.int .i64 3)], none, some (2, false)⟩,
    ⟨.mov, [.tmp 4], none, some (2, false)⟩,
    ⟨.mov, [.loc 9], none, some (5, true)⟩,
    ⟨.mov, [.loc 3], none, some (5, true)⟩,
    ⟨.bin .eql, [.tmp 6, .tmp 7], none, some (5, true)⟩,
    ⟨.pick, [.tmp 5, .tmp 8, .c (.bool false)], none, some (2, false)⟩,
    ⟨.pick, [.tmp 2, .c (.bool true), .tmp 9], some 13, none⟩])
    (.cond (.loc 13)
      (.region [
    ⟨.mov, [.loc 4], none, none⟩,
    ⟨.faddr 3, [.loc 10], none, none⟩,
    ⟨.store 1, [.tmp 1, .tmp 0], none, none⟩])
      .skip))
    (.seq
    (.seq
    (.region [
    ⟨.mov, [.loc 1], none, none⟩,
    ⟨.bin .eql, [.tmp 0, .c (.int .i64 4)], some 14, none⟩])
    (.cond (.loc 14)
      (.region [
    ⟨.mov, [.loc 9], none, none⟩,
    ⟨.mov, [.loc 4], none, none⟩,
    ⟨.bin .add, [.tmp 0, .tmp 1], none, none⟩,
    ⟨.faddr 3, [.loc 10], none, none⟩,
    ⟨.store 1, [.tmp 3, .tmp 2], none, none⟩])
      .skip))
    (.seq
    (.region [
    ⟨.mov, [.c (.nils)], some 11, none⟩])
    (.seq
    (.region [
    ⟨.mov, [.loc 11], none, none⟩,
    ⟨.faddr 1, [.loc 5], none, none⟩,
    ⟨.load none, [.tmp 1], none, none⟩,
    ⟨.append 4 32, [.tmp 0, .tmp 2], none, none⟩,
    ⟨.mov, [.tmp 3], some 11, none⟩])
    (.seq
    (.region [
    ⟨.mov, [.loc 11], none, none⟩,
    ⟨.load (some 4), [.loc 10], none, none⟩,
    ⟨.lit 1 4 [.int .i64 0, .int .i64 0, .int .u64 0, .int .u64 0] [(0, 4)], [.tmp 1], none, none⟩,
    ⟨.append 4 32, [.tmp 0, .tmp 2], none, none⟩,
    ⟨.faddr 1, [.loc 5], none, none⟩,
    ⟨.store 1, [.tmp 4, .tmp 3], none, none⟩])
    (.seq
    (.draw [0, 1, 2, 3, 4] 0 [
    ⟨.load (some 2), [.loc 5], none, none⟩,
    ⟨.load (some 4), [.loc 10], none, none⟩,
    ⟨.store 2, [.loc 6, .tmp 0], none, none⟩,
    ⟨.store 4, [.loc 7, .tmp 1], none, none⟩,
    ⟨.mov, [.c (.bool true)], some 8, none⟩] [(1, [3])])
    .ret)))))))))) }

/-- 54 -/
def ref06_Swapped : AFn := { nloc := 4, npar := 2, res := [.loc 3], body :=
    (.seq
    (.region [
    ⟨.box, [.loc 0], some 2, none⟩,
    ⟨.mov, [.c (.bool false)], some 3, none⟩])
    (.seq
    (.region [
    ⟨.faddr 0, [.loc 2], none, none⟩,
    ⟨.load none, [.tmp 0], none, none⟩,
    ⟨.bin .eql, [.tmp 1, .c (.int .i64 3)], none, none⟩,
    ⟨.mov, [.tmp 2], none, none⟩,
    ⟨.faddr 2, [.loc 2], none, some (3, true)⟩,
    ⟨.load none, [.tmp 4], none, some (3, true)⟩,
    ⟨.mov, [.loc 1], none, some (3, true)⟩,
    ⟨.bin .eql, [.tmp 5, .tmp 6], none, some (3, true)⟩,
    ⟨.pick, [.tmp 3, .tmp 7, .c (.bool false)], none, none⟩,
    ⟨.mov, [.tmp 8], some 3, none⟩])
    .ret)) }

/-- 55 -/
def ref06_At : AFn := { nloc := 7, npar := 2, res := [.loc 3], body :=
    (.seq
    (.region [
    ⟨.box, [.loc 0], some 2, none⟩,
    ⟨.mov, [.c (.int .u64 0)], some 3, none⟩])
    (.seq
    (.seq
    (.region [
    ⟨.faddr 1, [.loc 2], none, none⟩,
    ⟨.load none, [.tmp 0], none, none⟩,
    ⟨.len, [.tmp 1], none, none⟩,
    ⟨.bin .sub, [.tmp 2, .c (.int .i64 1)], none, none⟩,
    ⟨.mov, [.tmp 3], some 4, none⟩])
    (.block 0
    (.loop
    (.seq
    (.seq
    (.region [
    ⟨.mov, [.loc 4], none, none⟩,
    ⟨.bin .geq, [.tmp 0, .c (.int .i64 0)], some 5, none⟩])
    (.cond (.loc 5)
      .skip
      (.exit 0)))
    (.seq
    (.block 1
    (.seq
    (.region [
    ⟨.faddr 1, [.loc 2], none, none⟩,
    ⟨.load none, [.tmp 0], none, none⟩,
    ⟨.mov, [.loc 4], none, none⟩,
    ⟨.iaddr 4 none, [.tmp 1, .tmp 2], none, none⟩,
    ⟨.faddr 1, [.tmp 3], none, none⟩,
    ⟨.load none, [.tmp 4], none, none⟩,
    ⟨.mov, [.loc 1], none, none⟩,
    ⟨.bin .eql, [.tmp 5, .tmp 6], some 6, none⟩])
    (.cond (.loc 6)
      (.seq
      (.region [
    ⟨.faddr 1, [.loc 2], none, none⟩,
    ⟨.load none, [.tmp 0], none, none⟩,
    ⟨.mov, [.loc 4], none, none⟩,
    ⟨.iaddr 4 none, [.tmp 1, .tmp 2], none, none⟩,
    ⟨.faddr 3, [.tmp 3], none, none⟩,
    ⟨.load none, [.tmp 4], none, none⟩,
    ⟨.mov, [.tmp 5], some 3, none⟩])
      .ret)
      .skip)))
    (.region [
    ⟨.mov, [.loc 4], none, none⟩,
    ⟨.bin .sub, [.tmp 0, .c (.int .i64 1)], none, none⟩,
    ⟨.mov, [.tmp 1], some 4, none⟩]))))))
    (.seq
    (.region [
    ⟨.mov, [.c (.int .u64 0)], some 3, none⟩])
    .ret))) }

/-- 56 -/
def cell_Mem_there : AFn := { nloc := 3, npar := 2, res := [.loc 2], body :=
    (.seq
    (.region [
    ⟨.mov, [.c (.bool false)], some 2, none⟩])
    (.seq
    (.region [
    ⟨.mov, [.loc 0], none, none⟩,
    ⟨.eqv .ptr true, [.tmp 0, .c (.nilp)], none, none⟩,
    ⟨.mov, [.tmp 1], none, none⟩,
    ⟨.mov, [.loc 1], none, some (2, true)⟩,
    ⟨.bin .geq, [.tmp 3, .c (.int .i64 0)], none, some (2, true)⟩,
    ⟨.pick, [.tmp 2, .tmp 4, .c (.bool false)], none, none⟩,
    ⟨.mov, [.tmp 5], none, none⟩,
    ⟨.mov, [.loc 1], none, some (6, true)⟩,
    ⟨.mov, [.loc 0], none, some (6, true)⟩,
    ⟨.nilc, [.tmp 8], none, some (6, true)⟩,
    ⟨.faddr 7, [.tmp 9], none, some (6, true)⟩,
    ⟨.load none, [.tmp 10], none, some (6, true)⟩,
    ⟨.len, [.tmp 11], none, some (6, true)⟩,
    ⟨.bin .lss, [.tmp 7, .tmp 12], none, some (6, true)⟩,
    ⟨.pick, [.tmp 6, .tmp 13, .c (.bool false)], none, none⟩,
    ⟨.mov, [.tmp 14], some 2, none⟩])
    .ret)) }

/-- 58 -/
def docs_SameCells : AFn := { nloc := 7, npar := 2, res := [.loc 2], body :=
    (.seq
    (.region [
    ⟨.mov, [.c (.bool false)], some 2, none⟩])
    (.seq
    (.seq
    (.region [
    ⟨.mov, [.loc 0], none, none⟩,
    ⟨.len, [.tmp 0], none, none⟩,
    ⟨.mov, [.loc 1], none, none⟩,
    ⟨.len, [.tmp 2], none, none⟩,
    ⟨.bin .neq, [.tmp 1, .tmp 3], some 4, none⟩])
    (.cond (.loc 4)
      (.seq
      (.region [
    ⟨.mov, [.c (.bool false)], some 2, none⟩])
      .ret)
      .skip))
    (.seq
    (.seq
    (.region [
    ⟨.mov, [.c (.int .i64 0)], some 3, none⟩])
    (.block 0
    (.loop
    (.seq
    (.seq
    (.region [
    ⟨.mov, [.loc 3], none, none⟩,
    ⟨.mov, [.loc 0], none, none⟩,
    ⟨.len, [.tmp 1], none, none⟩,
    ⟨.bin .lss, [.tmp 0, .tmp 2], some 5, none⟩])
    (.cond (.loc 5)
      .skip
      (.exit 0)))
    (.seq
    (.block 1
    (.seq
    (.seq
    (.region [
    ⟨.mov, [.loc 0], none, none⟩,
    ⟨.mov, [.loc 3], none, none⟩,
    ⟨.iaddr 1 none, [.tmp 0, .tmp 1], none, none⟩,
    ⟨.load none, [.tmp 2], none, none⟩,
    ⟨.mov, [.loc 1], none, none⟩,
    ⟨.mov, [.loc 3], none, none⟩,
    ⟨.iaddr 1 none, [.tmp 4, .tmp 5], none, none⟩,
    ⟨.load none, [.tmp 6], none, none⟩,
    ⟨.bin .neq, [.tmp 3, .tmp 7], some 6, none⟩])
    (.cond (.loc 6)
      (.seq
      (.region [
    ⟨.mov, [.c (.bool false)], some 2, none⟩])
      .ret)
      .skip))
    (.region [
    ⟨.mov, [.loc 0], none, none⟩,
    ⟨.mov, [.loc 3], none, none⟩,
    ⟨.mov, [.loc 0], none, none⟩,
    ⟨.mov, [.loc 3], none, none⟩,
    ⟨.iaddr 1 none, [.tmp 2, .tmp 3], none, none⟩,
    ⟨.load none, [.tmp 4], none, none⟩,
    ⟨.bin .add, [.tmp 5, .c (.int .u64 77)], none, none⟩,
    ⟨.iaddr 1 none, [.tmp 0, .tmp 1], none, none⟩,
    ⟨.store 1, [.tmp 7, .tmp 6], none, none⟩])))
    (.region [
    ⟨.mov, [.loc 3], none, none⟩,
    ⟨.bin .add, [.tmp 0, .c (.int .i64 1)], none, none⟩,
    ⟨.mov, [.tmp 1], some 3, none⟩]))))))
    (.seq
    (.region [
    ⟨.mov, [.c (.bool true)], some 2, none⟩])
    .ret)))) }

/-- 57 -/
def ref06_All : AFn := { nloc := 6, npar := 1, res := [.loc 2], body :=
    (.seq
    (.region [
    ⟨.box, [.loc 0], some 1, none⟩,
    ⟨.mov, [.c (.nils)], some 2, none⟩])
    (.seq
    (.region [
    ⟨.faddr 0, [.loc 1], none, none⟩,
    ⟨.load none, [.tmp 0], none, none⟩,
    ⟨.make 1 8 [.int .u64 0], [.tmp 1, .tmp 1], none, none⟩,
    ⟨.mov, [.tmp 2], some 3, none⟩])
    (.seq
    (.seq
    (.region [
    ⟨.mov, [.c (.int .i64 0)], some 4, none⟩])
    (.block 0
    (.loop
    (.seq
    (.seq
    (.region [
    ⟨.mov, [.loc 4], none, none⟩,
    ⟨.faddr 1, [.loc 1], none, none⟩,
    ⟨.load none, [.tmp 1], none, none⟩,
    ⟨.len, [.tmp 2], none, none⟩,
    ⟨.bin .lss, [.tmp 0, .tmp 3], some 5, none⟩])
    (.cond (.loc 5)
      .skip
      (.exit 0)))
    (.seq
    (.block 1
    (.region [
    ⟨.mov, [.loc 3], none, none⟩,
    ⟨.faddr 1, [.loc 1], none, none⟩,
    ⟨.load none, [.tmp 1], none, none⟩,
    ⟨.mov, [.loc 4], none, none⟩,
    ⟨.iaddr 4 none, [.tmp 2, .tmp 3], none, none⟩,
    ⟨.faddr 1, [.tmp 4], none, none⟩,
    ⟨.load none, [.tmp 5], none, none⟩,
    ⟨.faddr 1, [.loc 1], none, none⟩,
    ⟨.load none, [.tmp 7], none, none⟩,
    ⟨.mov, [.loc 4], none, none⟩,
    ⟨.iaddr 4 none, [.tmp 8, .tmp 9], none, none⟩,
    ⟨.faddr 3, [.tmp 10], none, none⟩,
    ⟨.load none, [.tmp 11], none, none⟩,
    ⟨.iaddr 1 none, [.tmp 0, .tmp 6], none, none⟩,
    ⟨.store 1, [.tmp 13, .tmp 12], none, none⟩]))
    (.region [
    ⟨.mov, [.loc 4], none, none⟩,
    ⟨.bin .add, [.tmp 0, .c (.int .i64 1)], none, none⟩,
    ⟨.mov, [.tmp 1], some 4, none⟩]))))))
    (.seq
    (.region [
    ⟨.mov, [.loc 3], none, none⟩,
    ⟨.mov, [.tmp 0], some 2, none⟩])
    .ret)))) }

/-- 60 -/
def docs_SameLog : AFn := { nloc := 7, npar := 2, res := [.loc 2], body :=
    (.seq
    (.region [
    ⟨.mov, [.c (.bool false)], some 2, none⟩])
    (.seq
    (.seq
    (.region [
    ⟨.mov, [.loc 0], none, none⟩,
    ⟨.len, [.tmp 0], none, none⟩,
    ⟨.mov, [.loc 1], none, none⟩,
    ⟨.len, [.tmp 2], none, none⟩,
    ⟨.bin .neq, [.tmp 1, .tmp 3], some 4, none⟩])
    (.cond (.loc 4)
      (.seq
      (.region [
    ⟨.mov, [.c (.bool false)], some 2, none⟩])
      .ret)
      .skip))
    (.seq
    (.seq
    (.region [
    ⟨.mov, [.c (.int .i64 0)], some 3, none⟩])
    (.block 0
    (.loop
    (.seq
    (.seq
    (.region [
    ⟨.mov, [.loc 3], none, none⟩,
    ⟨.mov, [.loc 0], none, none⟩,
    ⟨.len, [.tmp 1], none, none⟩,
    ⟨.bin .lss, [.tmp 0, .tmp 2], some 5, none⟩])
    (.cond (.loc 5)
      .skip
      (.exit 0)))
    (.seq
    (.block 1
    (.seq
    (.seq
    (.draw [0, 1, 2, 3, 4, 5, 6, 7, 8, 9] 0 [
    ⟨.mov, [.loc 0], none, none⟩,
    ⟨.mov, [.loc 3], none, none⟩,
    ⟨.iaddr 4 none, [.tmp 0, .tmp 1], none, none⟩,
    ⟨.load (some 4), [.tmp 2], none, none⟩,
    ⟨.call 38, [.tmp 3], none, none⟩,
    ⟨.mov, [.loc 1], none, none⟩,
    ⟨.mov, [.loc 3], none, none⟩,
    ⟨.iaddr 4 none, [.tmp 5, .tmp 6], none, none⟩,
    ⟨.load (some 4), [.tmp 7], none, none⟩,
    ⟨.eqv (.agg [true, true, true, true]) true, [.tmp 4, .tmp 8], some 6, none⟩] [(8, [0])])
    (.cond (.loc 6)
      (.seq
      (.region [
    ⟨.mov, [.c (.bool false)], some 2, none⟩])
      .ret)
      .skip))
    (.region [
    ⟨.mov, [.loc 0], none, none⟩,
    ⟨.mov, [.loc 3], none, none⟩,
    ⟨.iaddr 4 none, [.tmp 0, .tmp 1], none, none⟩,
    ⟨.faddr 1, [.tmp 2], none, none⟩,
    ⟨.store 1, [.tmp 3, .c (.int .i64 (-77))], none, none⟩])))
    (.region [
    ⟨.mov, [.loc 3], none, none⟩,
    ⟨.bin .add, [.tmp 0, .c (.int .i64 1)], none, none⟩,
    ⟨.mov, [.tmp 1], some 3, none⟩]))))))
    (.seq
    (.region [
    ⟨.mov, [.c (.bool true)], some 2, none⟩])
    .ret)))) }

/-- 59 -/
def ref06_Log : AFn := { nloc := 3, npar := 1, res := [.loc 2], body :=
    (.seq
    (.region [
    ⟨.box, [.loc 0], some 1, none⟩,
    ⟨.mov, [.c (.nils)], some 2, none⟩])
    (.seq
    (.region [
    ⟨.faddr 1, [.loc 1], none, none⟩,
    ⟨.load none, [.tmp 0], none, none⟩,
    ⟨.faddr 1, [.loc 1], none, none⟩,
    ⟨.load none, [.tmp 2], none, none⟩,
    ⟨.len, [.tmp 3], none, none⟩,
    ⟨.bin .sub, [.tmp 4, .c (.int .i64 256)], none, none⟩,
    ⟨.max, [.c (.int .i64 0), .tmp 5], none, none⟩,
    ⟨.slice 4 true false false, [.tmp 1, .tmp 6], none, none⟩,
    ⟨.mov, [.tmp 7], some 2, none⟩])
    .ret)) }

/-- 61 -/
def slices_Clone_uint64 : AFn := { nloc := 3, npar := 1, res := [.loc 1], body :=
    (.seq
    (.region [
    ⟨.mov, [.c (.nils)], some 1, none⟩])
    (.seq
    (.seq
    (.region [
    ⟨.mov, [.loc 0], none, none⟩,
    ⟨.eqv .slc false, [.tmp 0, .c (.nils)], some 2, none⟩])
    (.cond (.loc 2)
      (.seq
      (.region [
    ⟨.mov, [.c (.nils)], some 1, none⟩])
      .ret)
      .skip))
    (.seq
    (.region [
    ⟨.lit 0 1 [.int .u64 0] [], [], none, none⟩,
    ⟨.mov, [.loc 0], none, none⟩,
    ⟨.append 1 8, [.tmp 0, .tmp 1], none, none⟩,
    ⟨.mov, [.tmp 2], some 1, none⟩])
    .ret))) }

/-- 62 -/
def slices_Clone_cell_Access : AFn := { nloc := 3, npar := 1, res := [.loc 1], body :=
    (.seq
    (.region [
    ⟨.mov, [.c (.nils)], some 1, none⟩])
    (.seq
    (.seq
    (.region [
    ⟨.mov, [.loc 0], none, none⟩,
    ⟨.eqv .slc false, [.tmp 0, .c (.nils)], some 2, none⟩])
    (.cond (.loc 2)
      (.seq
      (.region [
    ⟨.mov, [.c (.nils)], some 1, none⟩])
      .ret)
      .skip))
    (.seq
    (.region [
    ⟨.lit 0 4 [.int .i64 0, .int .i64 0, .int .u64 0, .int .u64 0] [], [], none, none⟩,
    ⟨.mov, [.loc 0], none, none⟩,
    ⟨.append 4 32, [.tmp 0, .tmp 1], none, none⟩,
    ⟨.mov, [.tmp 2], some 1, none⟩])
    .ret))) }

/-- 63 -/
def ref06_New : AFn := { nloc := 2, npar := 1, res := [.cell 1 (some 2)], body :=
    (.seq
    (.region [
    ⟨.alloc [.nils, .int .u64 0], [], some 1, none⟩])
    (.seq
    (.region [
    ⟨.mov, [.loc 0], none, none⟩,
    ⟨.min, [.tmp 0, .c (.int .i64 65536)], none, none⟩,
    ⟨.max, [.c (.int .i64 0), .tmp 1], none, none⟩,
    ⟨.make 1 8 [.int .u64 0], [.tmp 2, .tmp 2], none, none⟩,
    ⟨.build [.nils, .int .u64 0] [(0, 1)], [.tmp 3], none, none⟩,
    ⟨.store 2, [.loc 1, .tmp 4], none, none⟩])
    .ret)) }

/-- 64 -/
def ref06_Load : AFn := { nloc := 6, npar := 2, res := [.cell 3 (some 2), .loc 4], body :=
    (.seq
    (.region [
    ⟨.box, [.loc 0], some 2, none⟩,
    ⟨.alloc [.nils, .int .u64 0], [], some 3, none⟩,
    ⟨.mov, [.c (.int .u64 0)], some 4, none⟩])
    (.seq
    (.seq
    (.region [
    ⟨.load (some 2), [.loc 2], none, none⟩,
    ⟨.mov, [.loc 1], none, none⟩,
    ⟨.call 72, [.tmp 0, .tmp 1], none, none⟩,
    ⟨.not, [.tmp 2], some 5, none⟩])
    (.cond (.loc 5)
      (.seq
      (.region [
    ⟨.load (some 2), [.loc 2], none, none⟩,
    ⟨.store 2, [.loc 3, .tmp 0], none, none⟩,
    ⟨.mov, [.c (.int .u64 0)], some 4, none⟩])
      .ret)
      .skip))
    (.seq
    (.draw [0, 1, 2, 3, 4, 5, 6, 7, 8, 9, 10, 11, 12] 0 [
    ⟨.faddr 0, [.loc 2], none, none⟩,
    ⟨.load none, [.tmp 0], none, none⟩,
    ⟨.faddr 1, [.loc 2], none, none⟩,
    ⟨.load none, [.tmp 2], none, none⟩,
    ⟨.bin .add, [.tmp 3, .c (.int .u64 1)], none, none⟩,
    ⟨.build [.nils, .int .u64 0] [(0, 1), (1, 1)], [.tmp 1, .tmp 4], none, none⟩,
    ⟨.faddr 0, [.loc 2], none, none⟩,
    ⟨.load none, [.tmp 6], none, none⟩,
    ⟨.mov, [.loc 1], none, none⟩,
    ⟨.iaddr 1 none, [.tmp 7, .tmp 8], none, none⟩,
    ⟨.load none, [.tmp 9], none, none⟩,
    ⟨.store 2, [.loc 3, .tmp 5], none, none⟩,
    ⟨.mov, [.tmp 10], some 4, none⟩] [(7, [12]), (10, [12])])
    .ret))) }

/-- 65 -/
def ref06_Store : AFn := { nloc := 6, npar := 3, res := [.cell 4 (some 2)], body :=
    (.seq
    (.region [
    ⟨.box, [.loc 0], some 3, none⟩,
    ⟨.alloc [.nils, .int .u64 0], [], some 4, none⟩])
    (.seq
    (.seq
    (.region [
    ⟨.load (some 2), [.loc 3], none, none⟩,
    ⟨.mov, [.loc 1], none, none⟩,
    ⟨.call 72, [.tmp 0, .tmp 1], none, none⟩,
    ⟨.not, [.tmp 2], some 5, none⟩])
    (.cond (.loc 5)
      (.seq
      (.region [
    ⟨.load (some 2), [.loc 3], none, none⟩,
    ⟨.store 2, [.loc 4, .tmp 0], none, none⟩])
      .ret)
      .skip))
    (.seq
    (.region [
    ⟨.load (some 2), [.loc 3], none, none⟩,
    ⟨.mov, [.loc 1], none, none⟩,
    ⟨.mov, [.loc 2], none, none⟩,
    ⟨.call 73, [.tmp 0, .tmp 1, .tmp 2], none, none⟩,
    ⟨.store 2, [.loc 4, .tmp 3], none, none⟩])
    .ret))) }

/-- 66 -/
def ref06_CAS : AFn := { nloc := 9, npar := 4, res := [.cell 5 (some 2), .loc 6], body :=
    (.seq
    (.region [
    ⟨.box, [.loc 0], some 4, none⟩,
    ⟨.alloc [.nils, .int .u64 0], [], some 5, none⟩,
    ⟨.mov, [.c (.bool false)], some 6, none⟩])
    (.seq
    (.seq
    (.region [
    ⟨.load (some 2), [.loc 4], none, none⟩,
    ⟨.mov, [.loc 1], none, none⟩,
    ⟨.call 72, [.tmp 0, .tmp 1], none, none⟩,
    ⟨.not, [.tmp 2], some 7, none⟩])
    (.cond (.loc 7)
      (.seq
      (.region [
    ⟨.load (some 2), [.loc 4], none, none⟩,
    ⟨.store 2, [.loc 5, .tmp 0], none, none⟩,
    ⟨.mov, [.c (.bool false)], some 6, none⟩])
      .ret)
      .skip))
    (.seq
    (.seq
    (.region [
    ⟨.faddr 0, [.loc 4], none, none⟩,
    ⟨.load none, [.tmp 0], none, none⟩,
    ⟨.mov, [.loc 1], none, none⟩,
    ⟨.iaddr 1 none, [.tmp 1, .tmp 2], none, none⟩,
    ⟨.load none, [.tmp 3], none, none⟩,
    ⟨.mov, [.loc 2], none, none⟩,
    ⟨.bin .neq, [.tmp 4, .tmp 5], some 8, none⟩])
    (.cond (.loc 8)
      (.seq
      (.region [
    ⟨.faddr 0, [.loc 4], none, none⟩,
    ⟨.load none, [.tmp 0], none, none⟩,
    ⟨.faddr 1, [.loc 4], none, none⟩,
    ⟨.load none, [.tmp 2], none, none⟩,
    ⟨.bin .add, [.tmp 3, .c (.int .u64 1)], none, none⟩,
    ⟨.build [.nils, .int .u64 0] [(0, 1), (1, 1)], [.tmp 1, .tmp 4], none, none⟩,
    ⟨.store 2, [.loc 5, .tmp 5], none, none⟩,
    ⟨.mov, [.c (.bool false)], some 6, none⟩])
      .ret)
      .skip))
    (.seq
    (.region [
    ⟨.load (some 2), [.loc 4], none, none⟩,
    ⟨.mov, [.loc 1], none, none⟩,
    ⟨.mov, [.loc 3], none, none⟩,
    ⟨.call 73, [.tmp 0, .tmp 1, .tmp 2], none, none⟩,
    ⟨.store 2, [.loc 5, .tmp 3], none, none⟩,
    ⟨.mov, [.c (.bool true)], some 6, none⟩])
    .ret)))) }

/-- 67 -/
def ref06_Add : AFn := { nloc := 7, npar := 3, res := [.cell 4 (some 2), .loc 5], body :=
    (.seq
    (.region [
    ⟨.box, [.loc 0], some 3, none⟩,
    ⟨.alloc [.nils, .int .u64 0], [], some 4, none⟩,
    ⟨.mov, [.c (.int .u64 0)], some 5, none⟩])
    (.seq
    (.seq
    (.region [
    ⟨.load (some 2), [.loc 3], none, none⟩,
    ⟨.mov, [.loc 1], none, none⟩,
    ⟨.call 72, [.tmp 0, .tmp 1], none, none⟩,
    ⟨.not, [.tmp 2], some 6, none⟩])
    (.cond (.loc 6)
      (.seq
      (.region [
    ⟨.load (some 2), [.loc 3], none, none⟩,
    ⟨.store 2, [.loc 4, .tmp 0], none, none⟩,
    ⟨.mov, [.c (.int .u64 0)], some 5, none⟩])
      .ret)
      .skip))
    (.seq
    (.draw [0, 1, 2, 3, 4, 5, 6, 7, 8, 9, 10, 11, 12, 13, 14, 15, 16] 0 [
    ⟨.load (some 2), [.loc 3], none, none⟩,
    ⟨.mov, [.loc 1], none, none⟩,
    ⟨.faddr 0, [.loc 3], none, none⟩,
    ⟨.load none, [.tmp 2], none, none⟩,
    ⟨.mov, [.loc 1], none, none⟩,
    ⟨.iaddr 1 none, [.tmp 3, .tmp 4], none, none⟩,
    ⟨.load none, [.tmp 5], none, none⟩,
    ⟨.mov, [.loc 2], none, none⟩,
    ⟨.bin .add, [.tmp 6, .tmp 7], none, none⟩,
    ⟨.call 73, [.tmp 0, .tmp 1, .tmp 8], none, none⟩,
    ⟨.faddr 0, [.loc 3], none, none⟩,
    ⟨.load none, [.tmp 10], none, none⟩,
    ⟨.mov, [.loc 1], none, none⟩,
    ⟨.iaddr 1 none, [.tmp 11, .tmp 12], none, none⟩,
    ⟨.load none, [.tmp 13], none, none⟩,
    ⟨.store 2, [.loc 4, .tmp 9], none, none⟩,
    ⟨.mov, [.tmp 14], some 5, none⟩] [(11, [0, 16]), (14, [0, 16])])
    .ret))) }

/-- 68 -/
def docs_SameMem : AFn := { nloc := 4, npar := 2, res := [.loc 3], body :=
    (.seq
    (.region [
    ⟨.box, [.loc 1], some 2, none⟩,
    ⟨.mov, [.c (.bool false)], some 3, none⟩])
    (.seq
    (.draw [0, 1, 2, 3, 4, 5, 6, 7, 8, 9, 10, 11, 12, 13, 14, 15, 16, 17, 18, 19, 20] 0 [
    ⟨.mov, [.loc 0], none, none⟩,
    ⟨.call 34, [.tmp 0], none, none⟩,
    ⟨.faddr 0, [.loc 2], none, none⟩,
    ⟨.load none, [.tmp 2], none, none⟩,
    ⟨.len, [.tmp 3], none, none⟩,
    ⟨.bin .eql, [.tmp 1, .tmp 4], none, none⟩,
    ⟨.mov, [.tmp 5], none, none⟩,
    ⟨.mov, [.loc 0], none, some (6, true)⟩,
    ⟨.call 46, [.tmp 7], none, some (6, true)⟩,
    ⟨.faddr 1, [.loc 2], none, some (6, true)⟩,
    ⟨.load none, [.tmp 9], none, some (6, true)⟩,
    ⟨.bin .eql, [.tmp 8, .tmp 10], none, some (6, true)⟩,
    ⟨.pick, [.tmp 6, .tmp 11, .c (.bool false)], none, none⟩,
    ⟨.mov, [.tmp 12], none, none⟩,
    ⟨.mov, [.loc 0], none, some (13, true)⟩,
    ⟨.call 47, [.tmp 14], none, some (13, true)⟩,
    ⟨.faddr 0, [.loc 2], none, some (13, true)⟩,
    ⟨.load none, [.tmp 16], none, some (13, true)⟩,
    ⟨.call 58, [.tmp 15, .tmp 17], none, some (13, true)⟩,
    ⟨.pick, [.tmp 13, .tmp 18, .c (.bool false)], none, none⟩,
    ⟨.mov, [.tmp 19], some 3, none⟩] [(3, [0]), (10, [2]), (17, [9])])
    .ret)) }

/-- 69 -/
def slices_Equal_uint64 : AFn := { nloc := 9, npar := 2, res := [.loc 2], body :=
    (.seq
    (.region [
    ⟨.mov, [.c (.bool false)], some 2, none⟩])
    (.seq
    (.seq
    (.region [
    ⟨.mov, [.loc 0], none, none⟩,
    ⟨.len, [.tmp 0], none, none⟩,
    ⟨.mov, [.loc 1], none, none⟩,
    ⟨.len, [.tmp 2], none, none⟩,
    ⟨.bin .neq, [.tmp 1, .tmp 3], some 4, none⟩])
    (.cond (.loc 4)
      (.seq
      (.region [
    ⟨.mov, [.c (.bool false)], some 2, none⟩])
      .ret)
      .skip))
    (.seq
    (.seq
    (.region [
    ⟨.mov, [.loc 0], none, none⟩,
    ⟨.len, [.tmp 0], some 5, none⟩,
    ⟨.mov, [.c (.int .i64 0)], some 6, none⟩])
    (.block 0
    (.loop
    (.seq
    (.region [
    ⟨.bin .lss, [.loc 6, .loc 5], some 7, none⟩])
    (.seq
    (.cond (.loc 7)
      .skip
      (.exit 0))
    (.seq
    (.block 1
    (.seq
    (.region [
    ⟨.mov, [.loc 6], none, none⟩,
    ⟨.mov, [.tmp 0], some 3, none⟩])
    (.seq
    (.region [
    ⟨.mov, [.loc 0], none, none⟩,
    ⟨.mov, [.loc 3], none, none⟩,
    ⟨.iaddr 1 none, [.tmp 0, .tmp 1], none, none⟩,
    ⟨.load none, [.tmp 2], none, none⟩,
    ⟨.mov, [.loc 1], none, none⟩,
    ⟨.mov, [.loc 3], none, none⟩,
    ⟨.iaddr 1 none, [.tmp 4, .tmp 5], none, none⟩,
    ⟨.load none, [.tmp 6], none, none⟩,
    ⟨.bin .neq, [.tmp 3, .tmp 7], some 8, none⟩])
    (.cond (.loc 8)
      (.seq
      (.region [
    ⟨.mov, [.c (.bool false)], some 2, none⟩])
      .ret)
      .skip))))
    (.region [
    ⟨.bin .add, [.loc 6, .c (.int .i64 1)], none, none⟩,
    ⟨.mov, [.tmp 0], some 6, none⟩])))))))
    (.seq
    (.region [
    ⟨.mov, [.c (.bool true)], some 2, none⟩])
    .ret)))) }

/-- 70 -/
def cell_Mem_Add_1 : AFn := { nloc := 4, npar := 2, res := [.loc 2, .loc 3], body :=
    (.seq
    (.region [
    ⟨.mov, [.c (.int .u64 0)], some 2, none⟩,
    ⟨.mov, [.c (.bool false)], some 3, none⟩])
    (.seq
    (.region [
    ⟨.mov, [.loc 0], none, none⟩,
    ⟨.load none, [.loc 1], none, none⟩,
    ⟨.bin .add, [.tmp 0, .tmp 1], none, none⟩,
    ⟨.mov, [.tmp 2], some 2, none⟩,
    ⟨.mov, [.c (.bool true)], some 3, none⟩])
    .ret)) }

/-- 71 -/
def cell_counts_note : AFn := { nloc := 9, npar := 3, res := [], body :=
    (.seq
    (.region [
    ⟨.box, [.loc 1], some 3, none⟩])
    (.seq
    (.region [
    ⟨.mov, [.loc 0], none, none⟩,
    ⟨.nilc, [.tmp 0], none, none⟩,
    ⟨.faddr 0, [.tmp 1], none, none⟩,
    ⟨.load none, [.tmp 2], none, none⟩,
    ⟨.bin .add, [.tmp 3, .c (.int .u64 1)], none, none⟩,
    ⟨.nilc, [.tmp 0], none, none⟩,
    ⟨.faddr 0, [.tmp 5], none, none⟩,
    ⟨.store 1, [.tmp 6, .tmp 4], none, none⟩])
    (.seq
    (.block 0
    (.seq
    (.region [
    ⟨.faddr 0, [.loc 3], none, none⟩,
    ⟨.load none, [.tmp 0], none, none⟩,
    ⟨.bin .eql, [.tmp 1, .c (.int .i64 1)], none, none⟩,
    ⟨.mov, [.tmp 2], some 4, none⟩])
    (.cond (.loc 4)
      (.region [
    ⟨.mov, [.loc 0], none, none⟩,
    ⟨.nilc, [.tmp 0], none, none⟩,
    ⟨.faddr 1, [.tmp 1], none, none⟩,
    ⟨.faddr 0, [.tmp 2], none, none⟩,
    ⟨.load none, [.tmp 3], none, none⟩,
    ⟨.bin .add, [.tmp 4, .c (.int .u64 1)], none, none⟩,
    ⟨.nilc, [.tmp 0], none, none⟩,
    ⟨.faddr 1, [.tmp 6], none, none⟩,
    ⟨.faddr 0, [.tmp 7], none, none⟩,
    ⟨.store 1, [.tmp 8, .tmp 5], none, none⟩])
      (.seq
      (.region [
    ⟨.faddr 0, [.loc 3], none, none⟩,
    ⟨.load none, [.tmp 0], none, none⟩,
    ⟨.bin .eql, [.tmp 1, .c (.int .i64 2)], none, none⟩,
    ⟨.mov, [.tmp 2], some 5, none⟩])
      (.cond (.loc 5)
        (.region [
    ⟨.mov, [.loc 0], none, none⟩,
    ⟨.nilc, [.tmp 0], none, none⟩,
    ⟨.faddr 1, [.tmp 1], none, none⟩,
    ⟨.faddr 1, [.tmp 2], none, none⟩,
    ⟨.load none, [.tmp 3], none, none⟩,
    ⟨.bin .add, [.tmp 4, .c (.int .u64 1)], none, none⟩,
    ⟨.nilc, [.tmp 0], none, none⟩,
    ⟨.faddr 1, [.tmp 6], none, none⟩,
    ⟨.faddr 1, [.tmp 7], none, none⟩,
    ⟨.store 1, [.tmp 8, .tmp 5], none, none⟩])
        (.seq
        (.region [
    ⟨.faddr 0, [.loc 3], none, none⟩,
    ⟨.load none, [.tmp 0], none, none⟩,
    ⟨.bin .eql, [.tmp 1, .c (.int .i64 3)], none, none⟩,
    ⟨.mov, [.tmp 2], none, none⟩,
    ⟨.mov, [.loc 2], none, some (3, true)⟩,
    ⟨.pick, [.tmp 3, .tmp 4, .c (.bool false)], none, none⟩,
    ⟨.mov, [.tmp 5], some 6, none⟩])
        (.cond (.loc 6)
          (.region [
    ⟨.mov, [.loc 0], none, none⟩,
    ⟨.nilc, [.tmp 0], none, none⟩,
    ⟨.faddr 1, [.tmp 1], none, none⟩,
    ⟨.faddr 2, [.tmp 2], none, none⟩,
    ⟨.load none, [.tmp 3], none, none⟩,
    ⟨.bin .add, [.tmp 4, .c (.int .u64 1)], none, none⟩,
    ⟨.nilc, [.tmp 0], none, none⟩,
    ⟨.faddr 1, [.tmp 6], none, none⟩,
    ⟨.faddr 2, [.tmp 7], none, none⟩,
    ⟨.store 1, [.tmp 8, .tmp 5], none, none⟩])
          (.seq
          (.region [
    ⟨.faddr 0, [.loc 3], none, none⟩,
    ⟨.load none, [.tmp 0], none, none⟩,
    ⟨.bin .eql, [.tmp 1, .c (.int .i64 3)], none, none⟩,
    ⟨.mov, [.tmp 2], some 7, none⟩])
          (.cond (.loc 7)
            (.region [
    ⟨.mov, [.loc 0], none, none⟩,
    ⟨.nilc, [.tmp 0], none, none⟩,
    ⟨.faddr 1, [.tmp 1], none, none⟩,
    ⟨.faddr 3, [.tmp 2], none, none⟩,
    ⟨.load none, [.tmp 3], none, none⟩,
    ⟨.bin .add, [.tmp 4, .c (.int .u64 1)], none, none⟩,
    ⟨.nilc, [.tmp 0], none, none⟩,
    ⟨.faddr 1, [.tmp 6], none, none⟩,
    ⟨.faddr 3, [.tmp 7], none, none⟩,
    ⟨.store 1, [.tmp 8, .tmp 5], none, none⟩])
            (.region [
    ⟨.mov, [.loc 0], none, none⟩,
    ⟨.nilc, [.tmp 0], none, none⟩,
    ⟨.faddr 1, [.tmp 1], none, none⟩,
    ⟨.faddr 4, [.tmp 2], none, none⟩,
    ⟨.load none, [.tmp 3], none, none⟩,
    ⟨.bin .add, [.tmp 4, .c (.int .u64 1)], none, none⟩,
    ⟨.nilc, [.tmp 0], none, none⟩,
    ⟨.faddr 1, [.tmp 6], none, none⟩,
    ⟨.faddr 4, [.tmp 7], none, none⟩,
    ⟨.store 1, [.tmp 8, .tmp 5], none, none⟩]))))))))))
    (.seq
    (.draw [0, 1, 2, 3, 4, 5, 6, 7, 8, 9, 10] 0 [
    ⟨.mov, [.loc 0], none, none⟩,
    ⟨.mov, [.loc 0], none, none⟩,
    ⟨.nilc, [.tmp 1], none, none⟩,
    ⟨.faddr 6, [.tmp 2], none, none⟩,
    ⟨.load none, [.tmp 3], none, none⟩,
    ⟨.load (some 4), [.loc 3], none, none⟩,
    ⟨.lit 1 4 [.int .i64 0, .int .i64 0, .int .u64 0, .int .u64 0] [(0, 4)], [.tmp 5], none, none⟩,
    ⟨.append 4 32, [.tmp 4, .tmp 6], none, none⟩,
    ⟨.nilc, [.tmp 0], none, none⟩,
    ⟨.faddr 6, [.tmp 8], none, none⟩,
    ⟨.store 1, [.tmp 9, .tmp 7], none, none⟩] [(4, [7])])
    (.seq
    (.region [
    ⟨.mov, [.loc 0], none, none⟩,
    ⟨.nilc, [.tmp 0], none, none⟩,
    ⟨.faddr 6, [.tmp 1], none, none⟩,
    ⟨.load none, [.tmp 2], none, none⟩,
    ⟨.len, [.tmp 3], none, none⟩,
    ⟨.bin .gtr, [.tmp 4, .c (.int .i64 256)], some 8, none⟩])
    (.cond (.loc 8)
      (.region [
    ⟨.mov, [.loc 0], none, none⟩,
    ⟨.mov, [.loc 0], none, none⟩,
    ⟨.nilc, [.tmp 1], none, none⟩,
    ⟨.faddr 6, [.tmp 2], none, none⟩,
    ⟨.load none, [.tmp 3], none, none⟩,
    ⟨.slice 4 true false false, [.tmp 4, .c (.int .i64 1)], none, none⟩,
    ⟨.nilc, [.tmp 0], none, none⟩,
    ⟨.faddr 6, [.tmp 6], none, none⟩,
    ⟨.store 1, [.tmp 7, .tmp 5], none, none⟩])
      .skip)))))) }

/-- 72 -/
def ref06_there : AFn := { nloc := 4, npar := 2, res := [.loc 3], body :=
    (.seq
    (.region [
    ⟨.box, [.loc 0], some 2, none⟩,
    ⟨.mov, [.c (.bool false)], some 3, none⟩])
    (.seq
    (.region [
    ⟨.mov, [.loc 1], none, none⟩,
    ⟨.bin .geq, [.tmp 0, .c (.int .i64 0)], none, none⟩,
    ⟨.mov, [.tmp 1], none, none⟩,
    ⟨.mov, [.loc 1], none, some (2, true)⟩,
    ⟨.faddr 0, [.loc 2], none, some (2, true)⟩,
    ⟨.load none, [.tmp 4], none, some (2, true)⟩,
    ⟨.len, [.tmp 5], none, some (2, true)⟩,
    ⟨.bin .lss, [.tmp 3, .tmp 6], none, some (2, true)⟩,
    ⟨.pick, [.tmp 2, .tmp 7, .c (.bool false)], none, none⟩,
    ⟨.mov, [.tmp 8], some 3, none⟩])
    .ret)) }

/-- 73 -/
def ref06_with : AFn := { nloc := 6, npar := 3, res := [.cell 4 (some 2)], body :=
    (.seq
    (.region [
    ⟨.box, [.loc 0], some 3, none⟩,
    ⟨.alloc [.nils, .int .u64 0], [], some 4, none⟩])
    (.seq
    (.region [
    ⟨.mov, [.c (.nils)], some 5, none⟩])
    (.seq
    (.region [
    ⟨.mov, [.loc 5], none, none⟩,
    ⟨.faddr 0, [.loc 3], none, none⟩,
    ⟨.load none, [.tmp 1], none, none⟩,
    ⟨.append 1 8, [.tmp 0, .tmp 2], none, none⟩,
    ⟨.mov, [.tmp 3], some 5, none⟩])
    (.seq
    (.region [
    ⟨.mov, [.loc 5], none, none⟩,
    ⟨.mov, [.loc 1], none, none⟩,
    ⟨.mov, [.loc 2], none, none⟩,
    ⟨.iaddr 1 none, [.tmp 0, .tmp 1], none, none⟩,
    ⟨.store 1, [.tmp 3, .tmp 2], none, none⟩])
    (.seq
    (.region [
    ⟨.mov, [.loc 5], none, none⟩,
    ⟨.faddr 1, [.loc 3], none, none⟩,
    ⟨.load none, [.tmp 1], none, none⟩,
    ⟨.bin .add, [.tmp 2, .c (.int .u64 1)], none, none⟩,
    ⟨.build [.nils, .int .u64 0] [(0, 1), (1, 1)], [.tmp 0, .tmp 3], none, none⟩,
    ⟨.store 2, [.loc 4, .tmp 4], none, none⟩])
    .ret))))) }

end Go.Am.F06
