import Derived.Test.YtgfddegdjdeeoaaXG10
set_option linter.unusedSimpArgs false
set_option linter.unusedVariables false
section
namespace Go.Am.F09
set_option maxRecDepth 10000
def law09_PutLayPlays : AFn := { nloc := 29, npar := 5, res := [.loc 6], body :=
    (.seq
    (.region [
    ⟨.box, [.loc 0], some 5, none⟩,
    ⟨.mov, [.c (.bool false)], some 6, none⟩])
    (.seq
    (.seq
    (.region [
    ⟨.mov, [.loc 4], none, none⟩,
    ⟨.len, [.tmp 0], none, none⟩,
    ⟨.bin .gtr, [.tmp 1, .c (.int .i64 60)], none, none⟩,
    ⟨.mov, [.tmp 2], none, none⟩,
    ⟨.mov, [.loc 3], none, some (3, false)⟩,
    ⟨.len, [.tmp 4], none, some (3, false)⟩,
    ⟨.bin .gtr, [.tmp 5, .c (.int .i64 40)], none, some (3, false)⟩,
    ⟨.pick, [.tmp 3, .c (.bool true), .tmp 6], none, none⟩,
    ⟨.mov, [.tmp 7], none, none⟩,
    ⟨.mov, [.loc 2], none, some (8, false)⟩,
    ⟨.len, [.tmp 9], none, some (8, false)⟩,
    ⟨.bin .gtr, [.tmp 10, .c (.int .i64 70)], none, some (8, false)⟩,
    ⟨.pick, [.tmp 8, .c (.bool true), .tmp 11], some 20, none⟩])
    (.cond (.loc 20)
      (.seq
      (.region [
    ⟨.call 184, [], none, none⟩,
    ⟨.mov, [.tmp 0], some 6, none⟩])
      .ret)
      .skip))
    (.seq
    (.region [
    ⟨.load (some 6), [.loc 5], none, none⟩,
    ⟨.mov, [.loc 3], none, none⟩,
    ⟨.call 134, [.tmp 0, .tmp 1], none, none⟩,
    ⟨.call 135, [.tmp 2], none, none⟩,
    ⟨.mov, [.tmp 3], none, none⟩,
    ⟨.extract 0, [.tmp 4], none, none⟩,
    ⟨.extract 1, [.tmp 4], none, none⟩,
    ⟨.alloc [.nils, .int .u64 0], [], some 8, none⟩,
    ⟨.mov, [.tmp 5], some 7, none⟩,
    ⟨.store 2, [.tmp 7, .tmp 6], none, none⟩])
    (.seq
    (.region [
    ⟨.mov, [.c (.nils)], some 9, none⟩])
    (.seq
    (.region [
    ⟨.mov, [.loc 9], none, none⟩,
    ⟨.mov, [.loc 2], none, none⟩,
    ⟨.append 1 8, [.tmp 0, .tmp 1], none, none⟩,
    ⟨.mov, [.tmp 2], some 9, none⟩])
    (.seq
    (.draw [9, 0, 1, 2, 3, 4, 5, 6, 7, 8, 10, 11] 1 [
    ⟨.alloc [.int .i64 0, .int .i64 0, .int .i64 0, .int .i64 0, .int .i64 0, .int .i64 0, .int .i64 0, .nils, .int .i64 0, .int .u64 0, .int .i64 0, .int .i64 0], [], some 11, none⟩,
    ⟨.load (some 6), [.loc 5], none, none⟩,
    ⟨.mov, [.loc 1], none, none⟩,
    ⟨.mov, [.loc 9], none, none⟩,
    ⟨.call 199, [.tmp 1, .tmp 2, .tmp 3], none, none⟩,
    ⟨.load (some 6), [.loc 5], none, none⟩,
    ⟨.call 147, [.tmp 5], none, none⟩,
    ⟨.mov, [.loc 1], none, none⟩,
    ⟨.mov, [.loc 2], none, none⟩,
    ⟨.call 201, [.tmp 6, .tmp 7, .tmp 8], none, none⟩,
    ⟨.mov, [.tmp 4], some 10, none⟩,
    ⟨.store 12, [.tmp 0, .tmp 9], none, none⟩] [(0, [1, 5, 7, 10]), (5, [1])])
    (.seq
    (.seq
    (.region [
    ⟨.mov, [.c (.int .i64 0)], some 12, none⟩])
    (.block 0
    (.loop
    (.seq
    (.seq
    (.region [
    ⟨.mov, [.loc 12], none, none⟩,
    ⟨.mov, [.loc 9], none, none⟩,
    ⟨.len, [.tmp 1], none, none⟩,
    ⟨.bin .lss, [.tmp 0, .tmp 2], some 21, none⟩])
    (.cond (.loc 21)
      .skip
      (.exit 0)))
    (.seq
    (.block 1
    (.region [
    ⟨.mov, [.loc 9], none, none⟩,
    ⟨.mov, [.loc 12], none, none⟩,
    ⟨.iaddr 1 none, [.tmp 0, .tmp 1], none, none⟩,
    ⟨.store 1, [.tmp 2, .c (.int .i64 77)], none, none⟩]))
    (.region [
    ⟨.mov, [.loc 12], none, none⟩,
    ⟨.bin .add, [.tmp 0, .c (.int .i64 1)], none, none⟩,
    ⟨.mov, [.tmp 1], some 12, none⟩]))))))
    (.seq
    (.seq
    (.region [
    ⟨.mov, [.c (.int .i64 0)], some 13, none⟩])
    (.block 2
    (.loop
    (.seq
    (.seq
    (.region [
    ⟨.mov, [.loc 13], none, none⟩,
    ⟨.mov, [.loc 4], none, none⟩,
    ⟨.len, [.tmp 1], none, none⟩,
    ⟨.bin .leq, [.tmp 0, .tmp 2], some 22, none⟩])
    (.cond (.loc 22)
      .skip
      (.exit 2)))
    (.seq
    (.block 3
    (.seq
    (.seq
    (.region [
    ⟨.mov, [.c (.int .i64 0)], some 14, none⟩])
    (.block 4
    (.loop
    (.seq
    (.seq
    (.region [
    ⟨.mov, [.loc 14], none, none⟩,
    ⟨.bin .lss, [.tmp 0, .c (.int .i64 2)], some 23, none⟩])
    (.cond (.loc 23)
      .skip
      (.exit 4)))
    (.seq
    (.block 5
    (.seq
    (.region [
    ⟨.mov, [.loc 10], none, none⟩,
    ⟨.call 197, [.tmp 0], none, none⟩,
    ⟨.mov, [.tmp 1], some 15, none⟩])
    (.seq
    (.seq
    (.region [
    ⟨.mov, [.loc 15], none, none⟩,
    ⟨.faddr 7, [.loc 11], none, none⟩,
    ⟨.load none, [.tmp 1], none, none⟩,
    ⟨.call 84, [.tmp 0, .tmp 2], none, none⟩,
    ⟨.not, [.tmp 3], some 24, none⟩])
    (.cond (.loc 24)
      (.seq
      (.region [
    ⟨.mov, [.c (.bool false)], some 6, none⟩])
      .ret)
      .skip))
    (.seq
    (.region [
    ⟨.mov, [.c (.int .i64 0)], some 16, none⟩])
    (.block 6
    (.loop
    (.seq
    (.seq
    (.region [
    ⟨.mov, [.loc 16], none, none⟩,
    ⟨.mov, [.loc 15], none, none⟩,
    ⟨.len, [.tmp 1], none, none⟩,
    ⟨.bin .lss, [.tmp 0, .tmp 2], some 25, none⟩])
    (.cond (.loc 25)
      .skip
      (.exit 6)))
    (.seq
    (.block 7
    (.region [
    ⟨.mov, [.loc 15], none, none⟩,
    ⟨.mov, [.loc 16], none, none⟩,
    ⟨.iaddr 1 none, [.tmp 0, .tmp 1], none, none⟩,
    ⟨.store 1, [.tmp 2, .c (.int .i64 77)], none, none⟩]))
    (.region [
    ⟨.mov, [.loc 16], none, none⟩,
    ⟨.bin .add, [.tmp 0, .c (.int .i64 1)], none, none⟩,
    ⟨.mov, [.tmp 1], some 16, none⟩])))))))))
    (.region [
    ⟨.mov, [.loc 14], none, none⟩,
    ⟨.bin .add, [.tmp 0, .c (.int .i64 1)], none, none⟩,
    ⟨.mov, [.tmp 1], some 14, none⟩]))))))
    (.seq
    (.seq
    (.draw [0, 1, 2, 3, 4, 5, 6, 7, 8, 9, 10, 11] 0 [
    ⟨.mov, [.loc 10], none, none⟩,
    ⟨.call 196, [.tmp 0], none, none⟩,
    ⟨.faddr 8, [.loc 11], none, none⟩,
    ⟨.load none, [.tmp 2], none, none⟩,
    ⟨.bin .eql, [.tmp 3, .c (.int .i64 0)], none, none⟩,
    ⟨.eqv .bool true, [.tmp 1, .tmp 4], none, none⟩,
    ⟨.mov, [.tmp 5], none, none⟩,
    ⟨.mov, [.loc 7], none, some (6, false)⟩,
    ⟨.load (some 2), [.loc 8], none, some (6, false)⟩,
    ⟨.call 68, [.tmp 7, .tmp 8], none, some (6, false)⟩,
    ⟨.not, [.tmp 9], none, some (6, false)⟩,
    ⟨.pick, [.tmp 6, .c (.bool true), .tmp 10], some 26, none⟩] [(3, [0])])
    (.cond (.loc 26)
      (.seq
      (.region [
    ⟨.mov, [.c (.bool false)], some 6, none⟩])
      .ret)
      .skip))
    (.seq
    (.seq
    (.region [
    ⟨.mov, [.loc 13], none, none⟩,
    ⟨.mov, [.loc 4], none, none⟩,
    ⟨.len, [.tmp 1], none, none⟩,
    ⟨.bin .eql, [.tmp 0, .tmp 2], some 27, none⟩])
    (.cond (.loc 27)
      (.exit 2)
      .skip))
    (.seq
    (.region [
    ⟨.mov, [.loc 7], none, none⟩,
    ⟨.call 46, [.tmp 0], none, none⟩,
    ⟨.mov, [.tmp 1], some 17, none⟩])
    (.seq
    (.region [
    ⟨.load (some 12), [.loc 11], none, none⟩,
    ⟨.load (some 2), [.loc 8], none, none⟩,
    ⟨.call 202, [.tmp 0, .tmp 1], none, none⟩,
    ⟨.mov, [.tmp 2], none, none⟩,
    ⟨.extract 0, [.tmp 3], none, none⟩,
    ⟨.extract 1, [.tmp 3], none, none⟩,
    ⟨.alloc [.int .i64 0, .int .i64 0, .int .i64 0, .int .i64 0, .int .i64 0, .int .i64 0, .int .i64 0, .nils, .int .i64 0, .int .u64 0, .int .i64 0, .int .i64 0], [], some 18, none⟩,
    ⟨.alloc [.nils, .int .u64 0], [], some 19, none⟩,
    ⟨.store 12, [.tmp 6, .tmp 4], none, none⟩,
    ⟨.store 2, [.tmp 7, .tmp 5], none, none⟩])
    (.seq
    (.region [
    ⟨.load (some 12), [.loc 18], none, none⟩,
    ⟨.store 12, [.loc 11, .tmp 0], none, none⟩])
    (.seq
    (.region [
    ⟨.load (some 2), [.loc 19], none, none⟩,
    ⟨.store 2, [.loc 8, .tmp 0], none, none⟩])
    (.seq
    (.seq
    (.draw [0, 1, 2, 3, 4, 5, 6, 7, 8, 9, 10, 11, 12, 13] 0 [
    ⟨.mov, [.loc 10], none, none⟩,
    ⟨.mov, [.loc 7], none, none⟩,
    ⟨.call 195, [.tmp 0, .tmp 1], none, none⟩,
    ⟨.faddr 8, [.loc 11], none, none⟩,
    ⟨.load none, [.tmp 3], none, none⟩,
    ⟨.bin .eql, [.tmp 4, .c (.int .i64 0)], none, none⟩,
    ⟨.eqv .bool true, [.tmp 2, .tmp 5], none, none⟩,
    ⟨.mov, [.tmp 6], none, none⟩,
    ⟨.mov, [.loc 7], none, some (7, false)⟩,
    ⟨.call 46, [.tmp 8], none, some (7, false)⟩,
    ⟨.mov, [.loc 17], none, some (7, false)⟩,
    ⟨.bin .add, [.tmp 10, .c (.int .u64 1)], none, some (7, false)⟩,
    ⟨.bin .gtr, [.tmp 9, .tmp 11], none, some (7, false)⟩,
    ⟨.pick, [.tmp 7, .c (.bool true), .tmp 12], some 28, none⟩] [(4, [0])])
    (.cond (.loc 28)
      (.seq
      (.region [
    ⟨.mov, [.c (.bool false)], some 6, none⟩])
      .ret)
      .skip))
    (.region [
    ⟨.mov, [.loc 7], none, none⟩,
    ⟨.load (some 2), [.loc 8], none, none⟩,
    ⟨.mov, [.loc 4], none, none⟩,
    ⟨.mov, [.loc 13], none, none⟩,
    ⟨.iaddr 3 none, [.tmp 2, .tmp 3], none, none⟩,
    ⟨.load (some 3), [.tmp 4], none, none⟩,
    ⟨.call 193, [.tmp 0, .tmp 1, .tmp 5], none, none⟩,
    ⟨.store 2, [.loc 8, .tmp 6], none, none⟩]))))))))))
    (.region [
    ⟨.mov, [.loc 13], none, none⟩,
    ⟨.bin .add, [.tmp 0, .c (.int .i64 1)], none, none⟩,
    ⟨.mov, [.tmp 1], some 13, none⟩]))))))
    (.seq
    (.region [
    ⟨.call 184, [], none, none⟩,
    ⟨.mov, [.tmp 0], some 6, none⟩])
    .ret))))))))) }
def law09_works : AFn := { nloc := 8, npar := 0, res := [.loc 0], body :=
    (.seq
    (.region [
    ⟨.mov, [.c (.bool false)], some 0, none⟩])
    (.seq
    (.region [
    ⟨.call 205, [], none, none⟩,
    ⟨.mov, [.tmp 0], none, none⟩,
    ⟨.extract 0, [.tmp 1], none, none⟩,
    ⟨.extract 1, [.tmp 1], none, none⟩,
    ⟨.alloc [.int .i64 0, .int .i64 0, .int .i64 0, .int .i64 0, .int .i64 0, .int .i64 0], [], some 1, none⟩,
    ⟨.store 6, [.tmp 4, .tmp 2], none, none⟩,
    ⟨.mov, [.tmp 3], some 2, none⟩])
    (.seq
    (.region [
    ⟨.load (some 6), [.loc 1], none, none⟩,
    ⟨.call 185, [.tmp 0, .c (.int .i64 0), .c (.int .i64 7)], none, none⟩,
    ⟨.mov, [.tmp 1], some 3, none⟩])
    (.seq
    (.seq
    (.region [
    ⟨.mov, [.loc 3], none, none⟩,
    ⟨.mov, [.loc 2], none, none⟩,
    ⟨.call 186, [.tmp 0, .tmp 1], none, none⟩,
    ⟨.mov, [.tmp 2], none, none⟩,
    ⟨.mov, [.loc 3], none, some (3, false)⟩,
    ⟨.mov, [.loc 2], none, some (3, false)⟩,
    ⟨.call 186, [.tmp 4, .tmp 5], none, some (3, false)⟩,
    ⟨.pick, [.tmp 3, .c (.bool true), .tmp 6], none, none⟩,
    ⟨.mov, [.tmp 7], none, none⟩,
    ⟨.mov, [.loc 3], none, some (8, false)⟩,
    ⟨.mov, [.loc 2], none, some (8, false)⟩,
    ⟨.call 186, [.tmp 9, .tmp 10], none, some (8, false)⟩,
    ⟨.not, [.tmp 11], none, some (8, false)⟩,
    ⟨.pick, [.tmp 8, .c (.bool true), .tmp 12], none, none⟩,
    ⟨.mov, [.tmp 13], none, none⟩,
    ⟨.mov, [.loc 3], none, some (14, false)⟩,
    ⟨.call 187, [.tmp 15], none, some (14, false)⟩,
    ⟨.lit 2 1 [.int .i64 0] [(0, 1), (1, 1)], [.c (.int .i64 6), .c (.int .i64 7)], none, some (14, false)⟩,
    ⟨.call 84, [.tmp 16, .tmp 17], none, some (14, false)⟩,
    ⟨.not, [.tmp 18], none, some (14, false)⟩,
    ⟨.pick, [.tmp 14, .c (.bool true), .tmp 19], none, none⟩,
    ⟨.mov, [.tmp 20], none, none⟩,
    ⟨.load (some 6), [.loc 1], none, some (21, false)⟩,
    ⟨.mov, [.loc 2], none, some (21, false)⟩,
    ⟨.call 136, [.tmp 22, .tmp 23, .c (.int .i64 0)], none, some (21, false)⟩,
    ⟨.lit 1 1 [.int .i64 0] [(0, 1)], [.c (.int .i64 5)], none, some (21, false)⟩,
    ⟨.call 84, [.tmp 24, .tmp 25], none, some (21, false)⟩,
    ⟨.not, [.tmp 26], none, some (21, false)⟩,
    ⟨.pick, [.tmp 21, .c (.bool true), .tmp 27], some 6, none⟩])
    (.cond (.loc 6)
      (.seq
      (.region [
    ⟨.mov, [.c (.bool false)], some 0, none⟩])
      .ret)
      .skip))
    (.seq
    (.region [
    ⟨.call 205, [], none, none⟩,
    ⟨.mov, [.tmp 0], none, none⟩,
    ⟨.extract 0, [.tmp 1], none, none⟩,
    ⟨.extract 1, [.tmp 1], none, none⟩,
    ⟨.alloc [.int .i64 0, .int .i64 0, .int .i64 0, .int .i64 0, .int .i64 0, .int .i64 0], [], none, none⟩,
    ⟨.store 6, [.tmp 4, .tmp 2], none, none⟩,
    ⟨.mov, [.tmp 3], some 4, none⟩])
    (.seq
    (.region [
    ⟨.load (some 6), [.loc 1], none, none⟩,
    ⟨.call 185, [.tmp 0, .c (.int .i64 0), .c (.int .i64 7)], none, none⟩,
    ⟨.mov, [.tmp 1], some 5, none⟩])
    (.seq
    (.region [
    ⟨.mov, [.loc 5], none, none⟩,
    ⟨.mov, [.loc 4], none, none⟩,
    ⟨.call 186, [.tmp 0, .tmp 1], none, none⟩])
    (.seq
    (.region [
    ⟨.load (some 6), [.loc 1], none, none⟩,
    ⟨.mov, [.loc 4], none, none⟩,
    ⟨.call 139, [.tmp 0, .tmp 1, .c (.int .i64 0), .c (.int .i64 1)], none, none⟩])
    (.seq
    (.seq
    (.region [
    ⟨.mov, [.loc 5], none, none⟩,
    ⟨.mov, [.loc 4], none, none⟩,
    ⟨.call 186, [.tmp 0, .tmp 1], none, none⟩,
    ⟨.mov, [.tmp 2], none, none⟩,
    ⟨.mov, [.loc 5], none, some (3, false)⟩,
    ⟨.mov, [.loc 4], none, some (3, false)⟩,
    ⟨.call 186, [.tmp 4, .tmp 5], none, some (3, false)⟩,
    ⟨.pick, [.tmp 3, .c (.bool true), .tmp 6], none, none⟩,
    ⟨.mov, [.tmp 7], none, none⟩,
    ⟨.mov, [.loc 5], none, some (8, false)⟩,
    ⟨.mov, [.loc 4], none, some (8, false)⟩,
    ⟨.call 186, [.tmp 9, .tmp 10], none, some (8, false)⟩,
    ⟨.pick, [.tmp 8, .c (.bool true), .tmp 11], none, none⟩,
    ⟨.mov, [.tmp 12], none, none⟩,
    ⟨.mov, [.loc 5], none, some (13, false)⟩,
    ⟨.mov, [.loc 4], none, some (13, false)⟩,
    ⟨.call 186, [.tmp 14, .tmp 15], none, some (13, false)⟩,
    ⟨.pick, [.tmp 13, .c (.bool true), .tmp 16], none, none⟩,
    ⟨.mov, [.tmp 17], none, none⟩,
    ⟨.mov, [.loc 5], none, some (18, false)⟩,
    ⟨.mov, [.loc 4], none, some (18, false)⟩,
    ⟨.call 186, [.tmp 19, .tmp 20], none, some (18, false)⟩,
    ⟨.not, [.tmp 21], none, some (18, false)⟩,
    ⟨.pick, [.tmp 18, .c (.bool true), .tmp 22], some 7, none⟩])
    (.cond (.loc 7)
      (.seq
      (.region [
    ⟨.mov, [.c (.bool false)], some 0, none⟩])
      .ret)
      .skip))
    (.seq
    (.region [
    ⟨.mov, [.loc 5], none, none⟩,
    ⟨.call 187, [.tmp 0], none, none⟩,
    ⟨.len, [.tmp 1], none, none⟩,
    ⟨.bin .eql, [.tmp 2, .c (.int .i64 0)], none, none⟩,
    ⟨.mov, [.tmp 3], none, none⟩,
    ⟨.load (some 6), [.loc 1], none, some (4, true)⟩,
    ⟨.mov, [.loc 4], none, some (4, true)⟩,
    ⟨.call 136, [.tmp 5, .tmp 6, .c (.int .i64 0)], none, some (4, true)⟩,
    ⟨.lit 2 1 [.int .i64 0] [(0, 1), (1, 1)], [.c (.int .i64 6), .c (.int .i64 7)], none, some (4, true)⟩,
    ⟨.call 84, [.tmp 7, .tmp 8], none, some (4, true)⟩,
    ⟨.pick, [.tmp 4, .tmp 9, .c (.bool false)], none, none⟩,
    ⟨.mov, [.tmp 10], some 0, none⟩])
    .ret)))))))))) }
def kit_Pick : AFn := { nloc := 4, npar := 2, res := [.loc 2], body :=
    (.seq
    (.region [
    ⟨.mov, [.c (.int .i64 0)], some 2, none⟩])
    (.seq
    (.seq
    (.region [
    ⟨.mov, [.loc 1], none, none⟩,
    ⟨.bin .leq, [.tmp 0, .c (.int .i64 0)], some 3, none⟩])
    (.cond (.loc 3)
      (.seq
      (.region [
    ⟨.mov, [.c (.int .i64 0)], some 2, none⟩])
      .ret)
      .skip))
    (.seq
    (.region [
    ⟨.mov, [.loc 0], none, none⟩,
    ⟨.mov, [.loc 1], none, none⟩,
    ⟨.bin .rem, [.tmp 0, .tmp 1], none, none⟩,
    ⟨.mov, [.loc 1], none, none⟩,
    ⟨.bin .add, [.tmp 2, .tmp 3], none, none⟩,
    ⟨.mov, [.loc 1], none, none⟩,
    ⟨.bin .rem, [.tmp 4, .tmp 5], none, none⟩,
    ⟨.mov, [.tmp 6], some 2, none⟩])
    .ret))) }
def docs_Mem : AFn := F10.docs_Mem
def docs_Filled : AFn := F10.docs_Filled
def docs_Ring : AFn := F10.docs_Ring
def put_New : AFn := { nloc := 8, npar := 3, res := [.loc 4], body :=
    (.seq
    (.region [
    ⟨.box, [.loc 0], some 3, none⟩,
    ⟨.mov, [.c (.nilp)], some 4, none⟩])
    (.seq
    (.region [
    ⟨.load (some 6), [.loc 3], none, none⟩,
    ⟨.mov, [.loc 1], none, none⟩,
    ⟨.call 206, [.tmp 0, .tmp 1], none, none⟩,
    ⟨.mov, [.loc 2], none, none⟩,
    ⟨.build [.int .i64 0, .int .i64 0, .int .i64 0, .int .i64 0, .int .i64 0, .int .i64 0, .int .i64 0, .int .i64 0, .int .u64 0, .int .u32 0, .int .i64 0, .nils, .nils] [(0, 10), (10, 1)], [.tmp 2, .tmp 3], none, none⟩,
    ⟨.box, [.tmp 4], none, none⟩,
    ⟨.mov, [.tmp 5], some 5, none⟩])
    (.seq
    (.seq
    (.region [
    ⟨.mov, [.loc 2], none, none⟩,
    ⟨.bin .lss, [.tmp 0, .c (.int .i64 0)], some 6, none⟩])
    (.cond (.loc 6)
      (.region [
    ⟨.mov, [.loc 5], none, none⟩,
    ⟨.nilc, [.tmp 0], none, none⟩,
    ⟨.faddr 0, [.tmp 1], none, none⟩,
    ⟨.faddr 7, [.tmp 2], none, none⟩,
    ⟨.store 1, [.tmp 3, .c (.int .i64 0)], none, none⟩])
      .skip))
    (.seq
    (.seq
    (.region [
    ⟨.mov, [.loc 5], none, none⟩,
    ⟨.nilc, [.tmp 0], none, none⟩,
    ⟨.faddr 0, [.tmp 1], none, none⟩,
    ⟨.faddr 7, [.tmp 2], none, none⟩,
    ⟨.load none, [.tmp 3], none, none⟩,
    ⟨.bin .neq, [.tmp 4, .c (.int .i64 0)], some 7, none⟩])
    (.cond (.loc 7)
      (.region [
    ⟨.mov, [.loc 5], none, none⟩,
    ⟨.mov, [.loc 2], none, none⟩,
    ⟨.lit 1 1 [.int .i64 0] [(0, 1)], [.tmp 1], none, none⟩,
    ⟨.nilc, [.tmp 0], none, none⟩,
    ⟨.faddr 12, [.tmp 3], none, none⟩,
    ⟨.store 1, [.tmp 4, .tmp 2], none, none⟩])
      .skip))
    (.seq
    (.region [
    ⟨.mov, [.loc 5], none, none⟩,
    ⟨.mov, [.tmp 0], some 4, none⟩])
    .ret))))) }
def put_Put_Step : AFn := { nloc := 4, npar := 2, res := [.loc 2], body :=
    (.seq
    (.region [
    ⟨.mov, [.c (.bool false)], some 2, none⟩])
    (.seq
    (.seq
    (.region [
    ⟨.mov, [.loc 0], none, none⟩,
    ⟨.call 191, [.tmp 0], none, none⟩,
    ⟨.not, [.tmp 1], some 3, none⟩])
    (.cond (.loc 3)
      (.draw [0, 1, 2, 3, 4, 5, 6, 7, 8, 9] 0 [
    ⟨.call 207, [], none, none⟩,
    ⟨.mov, [.loc 0], none, none⟩,
    ⟨.nilc, [.tmp 1], none, none⟩,
    ⟨.faddr 0, [.tmp 2], none, none⟩,
    ⟨.faddr 7, [.tmp 3], none, none⟩,
    ⟨.load none, [.tmp 4], none, none⟩,
    ⟨.index 6 1 none, [.tmp 0, .tmp 5], none, none⟩,
    ⟨.mov, [.loc 0], none, none⟩,
    ⟨.mov, [.loc 1], none, none⟩,
    ⟨.callv, [.tmp 6, .tmp 7, .tmp 8], none, none⟩] [(5, [0])])
      .skip))
    (.seq
    (.region [
    ⟨.mov, [.loc 0], none, none⟩,
    ⟨.call 191, [.tmp 0], none, none⟩,
    ⟨.mov, [.tmp 1], some 2, none⟩])
    .ret))) }
def docs_Thief : AFn := F10.docs_Thief
def put_Put_Over : AFn := { nloc := 3, npar := 1, res := [.loc 1], body :=
    (.seq
    (.region [
    ⟨.mov, [.c (.nils)], some 1, none⟩])
    (.seq
    (.seq
    (.region [
    ⟨.mov, [.loc 0], none, none⟩,
    ⟨.eqv .ptr false, [.tmp 0, .c (.nilp)], none, none⟩,
    ⟨.mov, [.tmp 1], none, none⟩,
    ⟨.mov, [.loc 0], none, some (2, false)⟩,
    ⟨.nilc, [.tmp 3], none, some (2, false)⟩,
    ⟨.faddr 0, [.tmp 4], none, some (2, false)⟩,
    ⟨.faddr 7, [.tmp 5], none, some (2, false)⟩,
    ⟨.load none, [.tmp 6], none, some (2, false)⟩,
    ⟨.bin .neq, [.tmp 7, .c (.int .i64 0)], none, some (2, false)⟩,
    ⟨.pick, [.tmp 2, .c (.bool true), .tmp 8], some 2, none⟩])
    (.cond (.loc 2)
      (.seq
      (.region [
    ⟨.mov, [.c (.nils)], some 1, none⟩])
      .ret)
      .skip))
    (.seq
    (.region [
    ⟨.mov, [.loc 0], none, none⟩,
    ⟨.nilc, [.tmp 0], none, none⟩,
    ⟨.faddr 12, [.tmp 1], none, none⟩,
    ⟨.load none, [.tmp 2], none, none⟩,
    ⟨.call 208, [.tmp 3], none, none⟩,
    ⟨.mov, [.tmp 4], some 1, none⟩])
    .ret))) }
def kit_SameInts : AFn := F10.kit_SameInts
def docs_Config : AFn := F10.docs_Config
def put_Put_Done : AFn := { nloc := 2, npar := 1, res := [.loc 1], body :=
    (.seq
    (.region [
    ⟨.mov, [.c (.bool false)], some 1, none⟩])
    (.seq
    (.region [
    ⟨.mov, [.loc 0], none, none⟩,
    ⟨.eqv .ptr false, [.tmp 0, .c (.nilp)], none, none⟩,
    ⟨.mov, [.tmp 1], none, none⟩,
    ⟨.mov, [.loc 0], none, some (2, false)⟩,
    ⟨.nilc, [.tmp 3], none, some (2, false)⟩,
    ⟨.faddr 0, [.tmp 4], none, some (2, false)⟩,
    ⟨.faddr 7, [.tmp 5], none, some (2, false)⟩,
    ⟨.load none, [.tmp 6], none, some (2, false)⟩,
    ⟨.bin .eql, [.tmp 7, .c (.int .i64 0)], none, some (2, false)⟩,
    ⟨.pick, [.tmp 2, .c (.bool true), .tmp 8], none, none⟩,
    ⟨.mov, [.tmp 9], some 1, none⟩])
    .ret)) }
def docs_SameMem : AFn := F10.docs_SameMem
def cell_Mem_Ops : AFn := { nloc := 3, npar := 1, res := [.loc 1], body :=
    (.seq
    (.region [
    ⟨.mov, [.c (.int .u64 0)], some 1, none⟩])
    (.seq
    (.seq
    (.region [
    ⟨.mov, [.loc 0], none, none⟩,
    ⟨.eqv .ptr false, [.tmp 0, .c (.nilp)], some 2, none⟩])
    (.cond (.loc 2)
      (.seq
      (.region [
    ⟨.mov, [.c (.int .u64 0)], some 1, none⟩])
      .ret)
      .skip))
    (.seq
    (.region [
    ⟨.mov, [.loc 0], none, none⟩,
    ⟨.nilc, [.tmp 0], none, none⟩,
    ⟨.faddr 0, [.tmp 1], none, none⟩,
    ⟨.faddr 0, [.tmp 2], none, none⟩,
    ⟨.load none, [.tmp 3], none, none⟩,
    ⟨.mov, [.tmp 4], some 1, none⟩])
    .ret))) }
def law09_poked : AFn := { nloc := 8, npar := 3, res := [.cell 5 (some 2)], body :=
    (.seq
    (.region [
    ⟨.box, [.loc 1], some 3, none⟩,
    ⟨.box, [.loc 2], some 4, none⟩,
    ⟨.alloc [.nils, .int .u64 0], [], some 5, none⟩])
    (.seq
    (.seq
    (.region [
    ⟨.faddr 0, [.loc 4], none, none⟩,
    ⟨.load none, [.tmp 0], none, none⟩,
    ⟨.not, [.tmp 1], none, none⟩,
    ⟨.mov, [.tmp 2], none, none⟩,
    ⟨.faddr 0, [.loc 3], none, some (3, false)⟩,
    ⟨.load none, [.tmp 4], none, some (3, false)⟩,
    ⟨.len, [.tmp 5], none, some (3, false)⟩,
    ⟨.bin .eql, [.tmp 6, .c (.int .i64 0)], none, some (3, false)⟩,
    ⟨.pick, [.tmp 3, .c (.bool true), .tmp 7], some 7, none⟩])
    (.cond (.loc 7)
      (.seq
      (.region [
    ⟨.load (some 2), [.loc 3], none, none⟩,
    ⟨.store 2, [.loc 5, .tmp 0], none, none⟩])
      .ret)
      .skip))
    (.seq
    (.region [
    ⟨.faddr 1, [.loc 4], none, none⟩,
    ⟨.load none, [.tmp 0], none, none⟩,
    ⟨.faddr 0, [.loc 3], none, none⟩,
    ⟨.load none, [.tmp 2], none, none⟩,
    ⟨.len, [.tmp 3], none, none⟩,
    ⟨.call 87, [.tmp 1, .tmp 4], none, none⟩,
    ⟨.mov, [.tmp 5], some 6, none⟩])
    (.seq
    (.region [
    ⟨.mov, [.loc 0], none, none⟩,
    ⟨.mov, [.loc 6], none, none⟩,
    ⟨.faddr 2, [.loc 4], none, none⟩,
    ⟨.load none, [.tmp 2], none, none⟩,
    ⟨.call 22, [.tmp 0, .tmp 1, .tmp 3], none, none⟩])
    (.seq
    (.region [
    ⟨.load (some 2), [.loc 3], none, none⟩,
    ⟨.mov, [.loc 6], none, none⟩,
    ⟨.faddr 2, [.loc 4], none, none⟩,
    ⟨.load none, [.tmp 2], none, none⟩,
    ⟨.call 65, [.tmp 0, .tmp 1, .tmp 3], none, none⟩,
    ⟨.store 2, [.loc 5, .tmp 4], none, none⟩])
    .ret))))) }
def cell_New : AFn := { nloc := 2, npar := 1, res := [.loc 1], body :=
    (.seq
    (.region [
    ⟨.mov, [.c (.nilp)], some 1, none⟩])
    (.seq
    (.region [
    ⟨.mov, [.loc 0], none, none⟩,
    ⟨.min, [.tmp 0, .c (.int .i64 65536)], none, none⟩,
    ⟨.max, [.c (.int .i64 0), .tmp 1], none, none⟩,
    ⟨.make 1 8 [.int .u64 0], [.tmp 2, .tmp 2], none, none⟩,
    ⟨.build [.int .u64 0, .int .u64 0, .int .u64 0, .int .u64 0, .int .u64 0, .int .u64 0, .nils, .nils] [(7, 1)], [.tmp 3], none, none⟩,
    ⟨.box, [.tmp 4], none, none⟩,
    ⟨.mov, [.tmp 5], some 1, none⟩])
    .ret)) }
def put_Lay_Step : AFn := { nloc := 9, npar := 2, res := [.loc 2], body :=
    (.seq
    (.region [
    ⟨.mov, [.c (.bool false)], some 2, none⟩])
    (.seq
    (.block 0
    (.seq
    (.region [
    ⟨.mov, [.loc 0], none, none⟩,
    ⟨.call 196, [.tmp 0], none, none⟩,
    ⟨.mov, [.tmp 1], some 3, none⟩])
    (.cond (.loc 3)
      (.seq
      (.region [
    ⟨.mov, [.c (.bool true)], some 2, none⟩])
      .ret)
      (.seq
      (.region [
    ⟨.mov, [.loc 0], none, none⟩,
    ⟨.nilc, [.tmp 0], none, none⟩,
    ⟨.faddr 11, [.tmp 1], none, none⟩,
    ⟨.load none, [.tmp 2], none, none⟩,
    ⟨.len, [.tmp 3], none, none⟩,
    ⟨.bin .eql, [.tmp 4, .c (.int .i64 0)], none, none⟩,
    ⟨.mov, [.tmp 5], some 4, none⟩])
      (.cond (.loc 4)
        (.region [
    ⟨.mov, [.loc 0], none, none⟩,
    ⟨.nilc, [.tmp 0], none, none⟩,
    ⟨.faddr 0, [.tmp 1], none, none⟩,
    ⟨.faddr 7, [.tmp 2], none, none⟩,
    ⟨.store 1, [.tmp 3, .c (.int .i64 0)], none, none⟩])
        (.seq
        (.region [
    ⟨.mov, [.loc 0], none, none⟩,
    ⟨.nilc, [.tmp 0], none, none⟩,
    ⟨.faddr 0, [.tmp 1], none, none⟩,
    ⟨.faddr 7, [.tmp 2], none, none⟩,
    ⟨.load none, [.tmp 3], none, none⟩,
    ⟨.bin .eql, [.tmp 4, .c (.int .i64 1)], none, none⟩,
    ⟨.mov, [.tmp 5], some 5, none⟩])
        (.cond (.loc 5)
          (.region [
    ⟨.mov, [.loc 0], none, none⟩,
    ⟨.mov, [.loc 1], none, none⟩,
    ⟨.call 209, [.tmp 0, .tmp 1], none, none⟩])
          (.seq
          (.region [
    ⟨.mov, [.loc 0], none, none⟩,
    ⟨.nilc, [.tmp 0], none, none⟩,
    ⟨.faddr 0, [.tmp 1], none, none⟩,
    ⟨.faddr 7, [.tmp 2], none, none⟩,
    ⟨.load none, [.tmp 3], none, none⟩,
    ⟨.bin .eql, [.tmp 4, .c (.int .i64 2)], none, none⟩,
    ⟨.mov, [.tmp 5], some 6, none⟩])
          (.cond (.loc 6)
            (.seq
            (.draw [0, 1, 2, 3, 4, 5, 6, 7, 8, 9, 10, 11, 12, 13, 14, 15, 16, 17, 18, 19, 20, 21, 22, 23] 0 [
    ⟨.mov, [.loc 1], none, none⟩,
    ⟨.mov, [.loc 0], none, none⟩,
    ⟨.nilc, [.tmp 1], none, none⟩,
    ⟨.faddr 0, [.tmp 2], none, none⟩,
    ⟨.mov, [.loc 0], none, none⟩,
    ⟨.nilc, [.tmp 4], none, none⟩,
    ⟨.faddr 0, [.tmp 5], none, none⟩,
    ⟨.faddr 9, [.tmp 6], none, none⟩,
    ⟨.load none, [.tmp 7], none, none⟩,
    ⟨.conv .i64, [.tmp 8], none, none⟩,
    ⟨.call 210, [.tmp 3, .tmp 9], none, none⟩,
    ⟨.mov, [.loc 0], none, none⟩,
    ⟨.nilc, [.tmp 11], none, none⟩,
    ⟨.faddr 11, [.tmp 12], none, none⟩,
    ⟨.load none, [.tmp 13], none, none⟩,
    ⟨.mov, [.loc 0], none, none⟩,
    ⟨.nilc, [.tmp 15], none, none⟩,
    ⟨.faddr 0, [.tmp 16], none, none⟩,
    ⟨.faddr 9, [.tmp 17], none, none⟩,
    ⟨.load none, [.tmp 18], none, none⟩,
    ⟨.iaddr 1 none, [.tmp 14, .tmp 19], none, none⟩,
    ⟨.load none, [.tmp 20], none, none⟩,
    ⟨.conv .u64, [.tmp 21], none, none⟩,
    ⟨.call 22, [.tmp 0, .tmp 10, .tmp 22], none, none⟩] [(14, [0]), (19, [0]), (21, [0])])
            (.seq
            (.region [
    ⟨.mov, [.loc 0], none, none⟩,
    ⟨.nilc, [.tmp 0], none, none⟩,
    ⟨.faddr 0, [.tmp 1], none, none⟩,
    ⟨.faddr 9, [.tmp 2], none, none⟩,
    ⟨.load none, [.tmp 3], none, none⟩,
    ⟨.bin .add, [.tmp 4, .c (.int .u32 1)], none, none⟩,
    ⟨.nilc, [.tmp 0], none, none⟩,
    ⟨.faddr 0, [.tmp 6], none, none⟩,
    ⟨.faddr 9, [.tmp 7], none, none⟩,
    ⟨.store 1, [.tmp 8, .tmp 5], none, none⟩])
            (.seq
            (.region [
    ⟨.mov, [.loc 0], none, none⟩,
    ⟨.nilc, [.tmp 0], none, none⟩,
    ⟨.faddr 0, [.tmp 1], none, none⟩,
    ⟨.faddr 9, [.tmp 2], none, none⟩,
    ⟨.load none, [.tmp 3], none, none⟩,
    ⟨.mov, [.loc 0], none, none⟩,
    ⟨.nilc, [.tmp 5], none, none⟩,
    ⟨.faddr 10, [.tmp 6], none, none⟩,
    ⟨.load none, [.tmp 7], none, none⟩,
    ⟨.bin .eql, [.tmp 4, .tmp 8], some 7, none⟩])
            (.cond (.loc 7)
              (.region [
    ⟨.mov, [.loc 0], none, none⟩,
    ⟨.nilc, [.tmp 0], none, none⟩,
    ⟨.faddr 0, [.tmp 1], none, none⟩,
    ⟨.faddr 7, [.tmp 2], none, none⟩,
    ⟨.store 1, [.tmp 3, .c (.int .i64 3)], none, none⟩])
              .skip))))
            (.seq
            (.region [
    ⟨.mov, [.loc 0], none, none⟩,
    ⟨.nilc, [.tmp 0], none, none⟩,
    ⟨.faddr 0, [.tmp 1], none, none⟩,
    ⟨.mov, [.loc 1], none, none⟩,
    ⟨.mov, [.loc 0], none, none⟩,
    ⟨.nilc, [.tmp 4], none, none⟩,
    ⟨.faddr 0, [.tmp 5], none, none⟩,
    ⟨.faddr 8, [.tmp 6], none, none⟩,
    ⟨.load none, [.tmp 7], none, none⟩,
    ⟨.mov, [.loc 0], none, none⟩,
    ⟨.nilc, [.tmp 9], none, none⟩,
    ⟨.faddr 10, [.tmp 10], none, none⟩,
    ⟨.load none, [.tmp 11], none, none⟩,
    ⟨.call 211, [.tmp 8, .tmp 12], none, none⟩,
    ⟨.call 212, [.tmp 2, .tmp 3, .tmp 13], none, none⟩,
    ⟨.mov, [.tmp 14], some 8, none⟩])
            (.cond (.loc 8)
              (.region [
    ⟨.mov, [.loc 0], none, none⟩,
    ⟨.mov, [.loc 0], none, none⟩,
    ⟨.nilc, [.tmp 1], none, none⟩,
    ⟨.faddr 11, [.tmp 2], none, none⟩,
    ⟨.load none, [.tmp 3], none, none⟩,
    ⟨.mov, [.loc 0], none, none⟩,
    ⟨.nilc, [.tmp 5], none, none⟩,
    ⟨.faddr 10, [.tmp 6], none, none⟩,
    ⟨.load none, [.tmp 7], none, none⟩,
    ⟨.slice 1 true false false, [.tmp 4, .tmp 8], none, none⟩,
    ⟨.nilc, [.tmp 0], none, none⟩,
    ⟨.faddr 11, [.tmp 10], none, none⟩,
    ⟨.store 1, [.tmp 11, .tmp 9], none, none⟩])
              .skip)))))))))))
    (.seq
    (.region [
    ⟨.mov, [.loc 0], none, none⟩,
    ⟨.nilc, [.tmp 0], none, none⟩,
    ⟨.faddr 0, [.tmp 1], none, none⟩,
    ⟨.faddr 7, [.tmp 2], none, none⟩,
    ⟨.load none, [.tmp 3], none, none⟩,
    ⟨.bin .eql, [.tmp 4, .c (.int .i64 0)], none, none⟩,
    ⟨.mov, [.tmp 5], some 2, none⟩])
    .ret))) }
def put_Lay_Done : AFn := { nloc := 2, npar := 1, res := [.loc 1], body :=
    (.seq
    (.region [
    ⟨.mov, [.c (.bool false)], some 1, none⟩])
    (.seq
    (.region [
    ⟨.mov, [.loc 0], none, none⟩,
    ⟨.eqv .ptr false, [.tmp 0, .c (.nilp)], none, none⟩,
    ⟨.mov, [.tmp 1], none, none⟩,
    ⟨.mov, [.loc 0], none, some (2, false)⟩,
    ⟨.nilc, [.tmp 3], none, some (2, false)⟩,
    ⟨.faddr 0, [.tmp 4], none, some (2, false)⟩,
    ⟨.faddr 7, [.tmp 5], none, some (2, false)⟩,
    ⟨.load none, [.tmp 6], none, some (2, false)⟩,
    ⟨.bin .eql, [.tmp 7, .c (.int .i64 0)], none, some (2, false)⟩,
    ⟨.pick, [.tmp 2, .c (.bool true), .tmp 8], none, none⟩,
    ⟨.mov, [.tmp 9], some 1, none⟩])
    .ret)) }
def put_Lay_Hands : AFn := { nloc := 3, npar := 1, res := [.loc 1], body :=
    (.seq
    (.region [
    ⟨.mov, [.c (.nils)], some 1, none⟩])
    (.seq
    (.seq
    (.region [
    ⟨.mov, [.loc 0], none, none⟩,
    ⟨.eqv .ptr false, [.tmp 0, .c (.nilp)], some 2, none⟩])
    (.cond (.loc 2)
      (.seq
      (.region [
    ⟨.mov, [.c (.nils)], some 1, none⟩])
      .ret)
      .skip))
    (.seq
    (.region [
    ⟨.mov, [.loc 0], none, none⟩,
    ⟨.nilc, [.tmp 0], none, none⟩,
    ⟨.faddr 11, [.tmp 1], none, none⟩,
    ⟨.load none, [.tmp 2], none, none⟩,
    ⟨.call 208, [.tmp 3], none, none⟩,
    ⟨.mov, [.tmp 4], some 1, none⟩])
    .ret))) }
def conf_Config_Cells : AFn := F10.conf_Config_Cells
def cell_Mem_Store : AFn := F10.cell_Mem_Store
def conf_Config_Word : AFn := F10.conf_Config_Word
def put_NewLay : AFn := { nloc := 7, npar := 3, res := [.loc 4], body :=
    (.seq
    (.region [
    ⟨.box, [.loc 0], some 3, none⟩,
    ⟨.mov, [.c (.nilp)], some 4, none⟩])
    (.seq
    (.region [
    ⟨.load (some 6), [.loc 3], none, none⟩,
    ⟨.mov, [.loc 1], none, none⟩,
    ⟨.call 206, [.tmp 0, .tmp 1], none, none⟩,
    ⟨.build [.int .i64 0, .int .i64 0, .int .i64 0, .int .i64 0, .int .i64 0, .int .i64 0, .int .i64 0, .int .i64 0, .int .u64 0, .int .u32 0, .int .u32 0, .nils] [(0, 10)], [.tmp 2], none, none⟩,
    ⟨.box, [.tmp 3], none, none⟩,
    ⟨.mov, [.tmp 4], some 5, none⟩])
    (.seq
    (.seq
    (.region [
    ⟨.mov, [.loc 5], none, none⟩,
    ⟨.nilc, [.tmp 0], none, none⟩,
    ⟨.faddr 0, [.tmp 1], none, none⟩,
    ⟨.faddr 7, [.tmp 2], none, none⟩,
    ⟨.load none, [.tmp 3], none, none⟩,
    ⟨.bin .neq, [.tmp 4, .c (.int .i64 0)], some 6, none⟩])
    (.cond (.loc 6)
      (.region [
    ⟨.mov, [.loc 5], none, none⟩,
    ⟨.mov, [.loc 2], none, none⟩,
    ⟨.call 208, [.tmp 1], none, none⟩,
    ⟨.call 95, [.tmp 2, .c (.fn 213 [] [])], none, none⟩,
    ⟨.nilc, [.tmp 0], none, none⟩,
    ⟨.faddr 11, [.tmp 4], none, none⟩,
    ⟨.store 1, [.tmp 5, .tmp 3], none, none⟩])
      .skip))
    (.seq
    (.region [
    ⟨.mov, [.loc 5], none, none⟩,
    ⟨.mov, [.tmp 0], some 4, none⟩])
    .ret)))) }
def ref09_NewLay : AFn := { nloc := 10, npar := 3, res := [.cell 4 (some 12)], body :=
    (.seq
    (.region [
    ⟨.box, [.loc 0], some 3, none⟩,
    ⟨.alloc [.int .i64 0, .int .i64 0, .int .i64 0, .int .i64 0, .int .i64 0, .int .i64 0, .int .i64 0, .nils, .int .i64 0, .int .u64 0, .int .i64 0, .int .i64 0], [], some 4, none⟩])
    (.seq
    (.seq
    (.region [
    ⟨.load (some 6), [.loc 3], none, none⟩,
    ⟨.mov, [.loc 1], none, none⟩,
    ⟨.call 169, [.tmp 0, .tmp 1], none, none⟩,
    ⟨.not, [.tmp 2], some 7, none⟩])
    (.cond (.loc 7)
      (.seq
      (.region [
    ⟨.build [.int .i64 0, .int .i64 0, .int .i64 0, .int .i64 0, .int .i64 0, .int .i64 0, .int .i64 0, .nils, .int .i64 0, .int .u64 0, .int .i64 0, .int .i64 0] [], [], none, none⟩,
    ⟨.store 12, [.loc 4, .tmp 0], none, none⟩])
      .ret)
      .skip))
    (.seq
    (.region [
    ⟨.load (some 6), [.loc 3], none, none⟩,
    ⟨.mov, [.loc 1], none, none⟩,
    ⟨.build [.int .i64 0, .int .i64 0, .int .i64 0, .int .i64 0, .int .i64 0, .int .i64 0, .int .i64 0, .nils, .int .i64 0, .int .u64 0, .int .i64 0, .int .i64 0] [(0, 6), (6, 1), (8, 1)], [.tmp 0, .tmp 1, .c (.int .i64 1)], none, none⟩,
    ⟨.alloc [.int .i64 0, .int .i64 0, .int .i64 0, .int .i64 0, .int .i64 0, .int .i64 0, .int .i64 0, .nils, .int .i64 0, .int .u64 0, .int .i64 0, .int .i64 0], [], some 5, none⟩,
    ⟨.store 12, [.tmp 3, .tmp 2], none, none⟩])
    (.seq
    (.seq
    (.region [
    ⟨.mov, [.c (.int .i64 0)], some 6, none⟩])
    (.block 0
    (.loop
    (.seq
    (.seq
    (.region [
    ⟨.mov, [.loc 6], none, none⟩,
    ⟨.mov, [.loc 2], none, none⟩,
    ⟨.len, [.tmp 1], none, none⟩,
    ⟨.bin .lss, [.tmp 0, .tmp 2], some 8, none⟩])
    (.cond (.loc 8)
      .skip
      (.exit 0)))
    (.seq
    (.block 1
    (.seq
    (.region [
    ⟨.mov, [.loc 2], none, none⟩,
    ⟨.mov, [.loc 6], none, none⟩,
    ⟨.iaddr 1 none, [.tmp 0, .tmp 1], none, none⟩,
    ⟨.load none, [.tmp 2], none, none⟩,
    ⟨.bin .geq, [.tmp 3, .c (.int .i64 0)], some 9, none⟩])
    (.cond (.loc 9)
      (.draw [0, 1, 2, 3, 4, 5, 6, 7, 8, 9] 0 [
    ⟨.faddr 7, [.loc 5], none, none⟩,
    ⟨.load none, [.tmp 0], none, none⟩,
    ⟨.mov, [.loc 2], none, none⟩,
    ⟨.mov, [.loc 6], none, none⟩,
    ⟨.iaddr 1 none, [.tmp 2, .tmp 3], none, none⟩,
    ⟨.load none, [.tmp 4], none, none⟩,
    ⟨.lit 1 1 [.int .i64 0] [(0, 1)], [.tmp 5], none, none⟩,
    ⟨.append 1 8, [.tmp 1, .tmp 6], none, none⟩,
    ⟨.faddr 7, [.loc 5], none, none⟩,
    ⟨.store 1, [.tmp 8, .tmp 7], none, none⟩] [(1, [7])])
      .skip)))
    (.region [
    ⟨.mov, [.loc 6], none, none⟩,
    ⟨.bin .add, [.tmp 0, .c (.int .i64 1)], none, none⟩,
    ⟨.mov, [.tmp 1], some 6, none⟩]))))))
    (.seq
    (.region [
    ⟨.load (some 12), [.loc 5], none, none⟩,
    ⟨.store 12, [.loc 4, .tmp 0], none, none⟩])
    .ret))))) }
def ref09_StepLay : AFn := { nloc := 17, npar := 2, res := [.cell 4 (some 12), .cell 5 (some 2)], body :=
    (.seq
    (.region [
    ⟨.box, [.loc 0], some 2, none⟩,
    ⟨.box, [.loc 1], some 3, none⟩,
    ⟨.alloc [.int .i64 0, .int .i64 0, .int .i64 0, .int .i64 0, .int .i64 0, .int .i64 0, .int .i64 0, .nils, .int .i64 0, .int .u64 0, .int .i64 0, .int .i64 0], [], some 4, none⟩,
    ⟨.alloc [.nils, .int .u64 0], [], some 5, none⟩])
    (.seq
    (.seq
    (.region [
    ⟨.faddr 8, [.loc 2], none, none⟩,
    ⟨.load none, [.tmp 0], none, none⟩,
    ⟨.bin .eql, [.tmp 1, .c (.int .i64 0)], some 7, none⟩])
    (.cond (.loc 7)
      (.seq
      (.draw [0, 1, 2, 3] 0 [
    ⟨.load (some 12), [.loc 2], none, none⟩,
    ⟨.load (some 2), [.loc 3], none, none⟩,
    ⟨.store 12, [.loc 4, .tmp 0], none, none⟩,
    ⟨.store 2, [.loc 5, .tmp 1], none, none⟩] [(1, [3])])
      .ret)
      .skip))
    (.seq
    (.seq
    (.region [
    ⟨.faddr 7, [.loc 2], none, none⟩,
    ⟨.load none, [.tmp 0], none, none⟩,
    ⟨.len, [.tmp 1], none, none⟩,
    ⟨.bin .eql, [.tmp 2, .c (.int .i64 0)], some 8, none⟩])
    (.cond (.loc 8)
      (.seq
      (.region [
    ⟨.faddr 8, [.loc 2], none, none⟩,
    ⟨.store 1, [.tmp 0, .c (.int .i64 0)], none, none⟩])
      (.seq
      (.draw [0, 1, 2, 3] 0 [
    ⟨.load (some 12), [.loc 2], none, none⟩,
    ⟨.load (some 2), [.loc 3], none, none⟩,
    ⟨.store 12, [.loc 4, .tmp 0], none, none⟩,
    ⟨.store 2, [.loc 5, .tmp 1], none, none⟩] [(1, [3])])
      .ret))
      .skip))
    (.seq
    (.region [
    ⟨.mov, [.c (.bool false)], some 6, none⟩])
    (.seq
    (.seq
    (.region [
    ⟨.faddr 8, [.loc 2], none, none⟩,
    ⟨.load none, [.tmp 0], some 9, none⟩])
    (.block 0
    (.seq
    (.region [
    ⟨.bin .eql, [.loc 9, .c (.int .i64 1)], none, none⟩,
    ⟨.mov, [.tmp 0], some 10, none⟩])
    (.cond (.loc 10)
      (.seq
      (.draw [0, 1, 2, 3, 4, 5, 6, 7, 8, 9, 10, 11, 12] 0 [
    ⟨.load (some 2), [.loc 3], none, none⟩,
    ⟨.faddr 0, [.loc 2], none, none⟩,
    ⟨.load (some 6), [.tmp 1], none, none⟩,
    ⟨.faddr 6, [.loc 2], none, none⟩,
    ⟨.load none, [.tmp 3], none, none⟩,
    ⟨.call 172, [.tmp 2, .tmp 4], none, none⟩,
    ⟨.call 64, [.tmp 0, .tmp 5], none, none⟩,
    ⟨.mov, [.tmp 6], none, none⟩,
    ⟨.extract 0, [.tmp 7], none, none⟩,
    ⟨.extract 1, [.tmp 7], none, none⟩,
    ⟨.store 2, [.loc 3, .tmp 8], none, none⟩,
    ⟨.faddr 9, [.loc 2], none, none⟩,
    ⟨.store 1, [.tmp 11, .tmp 9], none, none⟩] [(0, [6])])
      (.seq
      (.region [
    ⟨.faddr 11, [.loc 2], none, none⟩,
    ⟨.store 1, [.tmp 0, .c (.int .i64 0)], none, none⟩])
      (.seq
      (.region [
    ⟨.faddr 10, [.loc 2], none, none⟩,
    ⟨.store 1, [.tmp 0, .c (.int .i64 0)], none, none⟩])
      (.seq
      (.seq
      (.draw [0, 1, 2, 3, 4, 5, 6, 7] 0 [
    ⟨.faddr 9, [.loc 2], none, none⟩,
    ⟨.load none, [.tmp 0], none, none⟩,
    ⟨.call 173, [.tmp 1], none, none⟩,
    ⟨.faddr 0, [.loc 2], none, none⟩,
    ⟨.faddr 1, [.tmp 3], none, none⟩,
    ⟨.load none, [.tmp 4], none, none⟩,
    ⟨.conv .u32, [.tmp 5], none, none⟩,
    ⟨.bin .lss, [.tmp 2, .tmp 6], some 11, none⟩] [(5, [0])])
      (.cond (.loc 11)
        (.draw [0, 1, 2, 3, 4, 5, 6, 7, 8, 9, 10, 11, 12, 13] 0 [
    ⟨.faddr 7, [.loc 2], none, none⟩,
    ⟨.load none, [.tmp 0], none, none⟩,
    ⟨.len, [.tmp 1], none, none⟩,
    ⟨.faddr 0, [.loc 2], none, none⟩,
    ⟨.faddr 1, [.tmp 3], none, none⟩,
    ⟨.load none, [.tmp 4], none, none⟩,
    ⟨.faddr 9, [.loc 2], none, none⟩,
    ⟨.load none, [.tmp 6], none, none⟩,
    ⟨.call 173, [.tmp 7], none, none⟩,
    ⟨.conv .i64, [.tmp 8], none, none⟩,
    ⟨.bin .sub, [.tmp 5, .tmp 9], none, none⟩,
    ⟨.min, [.tmp 2, .tmp 10], none, none⟩,
    ⟨.faddr 10, [.loc 2], none, none⟩,
    ⟨.store 1, [.tmp 12, .tmp 11], none, none⟩] [(1, [9]), (5, [9])])
        .skip))
      (.seq
      (.region [
    ⟨.faddr 8, [.loc 2], none, none⟩,
    ⟨.store 1, [.tmp 0, .c (.int .i64 2)], none, none⟩])
      (.seq
      (.region [
    ⟨.faddr 10, [.loc 2], none, none⟩,
    ⟨.load none, [.tmp 0], none, none⟩,
    ⟨.bin .eql, [.tmp 1, .c (.int .i64 0)], some 12, none⟩])
      (.cond (.loc 12)
        (.region [
    ⟨.faddr 8, [.loc 2], none, none⟩,
    ⟨.store 1, [.tmp 0, .c (.int .i64 0)], none, none⟩])
        .skip)))))))
      (.seq
      (.region [
    ⟨.bin .eql, [.loc 9, .c (.int .i64 2)], none, none⟩,
    ⟨.mov, [.tmp 0], some 13, none⟩])
      (.cond (.loc 13)
        (.seq
        (.draw [0, 1, 2, 3, 4, 5, 6, 7, 8, 9, 10, 11, 12, 13, 14, 15, 16, 17, 18, 19, 20, 21] 0 [
    ⟨.load (some 2), [.loc 3], none, none⟩,
    ⟨.faddr 0, [.loc 2], none, none⟩,
    ⟨.load (some 6), [.tmp 1], none, none⟩,
    ⟨.faddr 6, [.loc 2], none, none⟩,
    ⟨.load none, [.tmp 3], none, none⟩,
    ⟨.faddr 9, [.loc 2], none, none⟩,
    ⟨.load none, [.tmp 5], none, none⟩,
    ⟨.call 171, [.tmp 6], none, none⟩,
    ⟨.faddr 11, [.loc 2], none, none⟩,
    ⟨.load none, [.tmp 8], none, none⟩,
    ⟨.conv .u32, [.tmp 9], none, none⟩,
    ⟨.bin .add, [.tmp 7, .tmp 10], none, none⟩,
    ⟨.call 174, [.tmp 2, .tmp 4, .tmp 11], none, none⟩,
    ⟨.faddr 7, [.loc 2], none, none⟩,
    ⟨.load none, [.tmp 13], none, none⟩,
    ⟨.faddr 11, [.loc 2], none, none⟩,
    ⟨.load none, [.tmp 15], none, none⟩,
    ⟨.iaddr 1 none, [.tmp 14, .tmp 16], none, none⟩,
    ⟨.load none, [.tmp 17], none, none⟩,
    ⟨.conv .u64, [.tmp 18], none, none⟩,
    ⟨.call 65, [.tmp 0, .tmp 12, .tmp 19], none, none⟩,
    ⟨.store 2, [.loc 3, .tmp 20], none, none⟩] [(0, [8, 13]), (2, [8]), (4, [8]), (9, [0]), (14, [0, 8]), (16, [0, 8]), (18, [0, 8])])
        (.seq
        (.region [
    ⟨.faddr 11, [.loc 2], none, none⟩,
    ⟨.load none, [.tmp 0], none, none⟩,
    ⟨.bin .add, [.tmp 1, .c (.int .i64 1)], none, none⟩,
    ⟨.faddr 11, [.loc 2], none, none⟩,
    ⟨.store 1, [.tmp 3, .tmp 2], none, none⟩])
        (.seq
        (.region [
    ⟨.faddr 11, [.loc 2], none, none⟩,
    ⟨.load none, [.tmp 0], none, none⟩,
    ⟨.faddr 10, [.loc 2], none, none⟩,
    ⟨.load none, [.tmp 2], none, none⟩,
    ⟨.bin .eql, [.tmp 1, .tmp 3], some 14, none⟩])
        (.cond (.loc 14)
          (.region [
    ⟨.faddr 8, [.loc 2], none, none⟩,
    ⟨.store 1, [.tmp 0, .c (.int .i64 3)], none, none⟩])
          .skip))))
        (.seq
        (.region [
    ⟨.bin .eql, [.loc 9, .c (.int .i64 3)], none, none⟩,
    ⟨.mov, [.tmp 0], some 15, none⟩])
        (.cond (.loc 15)
          (.seq
          (.draw [0, 1, 2, 3, 4, 5, 6, 7, 8, 9, 10, 11, 12, 13, 14, 15, 16, 17, 18, 19, 20, 21, 22, 23, 24] 0 [
    ⟨.load (some 2), [.loc 3], none, none⟩,
    ⟨.faddr 0, [.loc 2], none, none⟩,
    ⟨.load (some 6), [.tmp 1], none, none⟩,
    ⟨.faddr 6, [.loc 2], none, none⟩,
    ⟨.load none, [.tmp 3], none, none⟩,
    ⟨.call 172, [.tmp 2, .tmp 4], none, none⟩,
    ⟨.faddr 9, [.loc 2], none, none⟩,
    ⟨.load none, [.tmp 6], none, none⟩,
    ⟨.faddr 9, [.loc 2], none, none⟩,
    ⟨.load none, [.tmp 8], none, none⟩,
    ⟨.call 170, [.tmp 9], none, none⟩,
    ⟨.faddr 9, [.loc 2], none, none⟩,
    ⟨.load none, [.tmp 11], none, none⟩,
    ⟨.call 171, [.tmp 12], none, none⟩,
    ⟨.faddr 10, [.loc 2], none, none⟩,
    ⟨.load none, [.tmp 14], none, none⟩,
    ⟨.conv .u32, [.tmp 15], none, none⟩,
    ⟨.bin .add, [.tmp 13, .tmp 16], none, none⟩,
    ⟨.call 175, [.tmp 10, .tmp 17], none, none⟩,
    ⟨.call 66, [.tmp 0, .tmp 5, .tmp 7, .tmp 18], none, none⟩,
    ⟨.mov, [.tmp 19], none, none⟩,
    ⟨.extract 0, [.tmp 20], none, none⟩,
    ⟨.extract 1, [.tmp 20], none, none⟩,
    ⟨.store 2, [.loc 3, .tmp 21], none, none⟩,
    ⟨.mov, [.tmp 22], some 6, none⟩] [(0, [6, 11, 14, 19]), (7, [0, 11, 14, 19]), (9, [0]), (12, [0, 6]), (15, [0, 6, 11])])
          (.seq
          (.region [
    ⟨.faddr 8, [.loc 2], none, none⟩,
    ⟨.store 1, [.tmp 0, .c (.int .i64 1)], none, none⟩])
          (.seq
          (.region [
    ⟨.mov, [.loc 6], some 16, none⟩])
          (.cond (.loc 16)
            (.seq
            (.region [
    ⟨.faddr 8, [.loc 2], none, none⟩,
    ⟨.store 1, [.tmp 0, .c (.int .i64 0)], none, none⟩])
            (.region [
    ⟨.faddr 7, [.loc 2], none, none⟩,
    ⟨.load none, [.tmp 0], none, none⟩,
    ⟨.faddr 10, [.loc 2], none, none⟩,
    ⟨.load none, [.tmp 2], none, none⟩,
    ⟨.slice 1 true false false, [.tmp 1, .tmp 3], none, none⟩,
    ⟨.faddr 7, [.loc 2], none, none⟩,
    ⟨.store 1, [.tmp 5, .tmp 4], none, none⟩]))
            .skip))))
          .skip))))))))
    (.seq
    (.draw [0, 1, 2, 3] 0 [
    ⟨.load (some 12), [.loc 2], none, none⟩,
    ⟨.load (some 2), [.loc 3], none, none⟩,
    ⟨.store 12, [.loc 4, .tmp 0], none, none⟩,
    ⟨.store 2, [.loc 5, .tmp 1], none, none⟩] [(1, [3])])
    .ret)))))) }
def law09_ring : AFn := { nloc := 4, npar := 0, res := [.cell 0 (some 6), .loc 1], body :=
    (.seq
    (.region [
    ⟨.alloc [.int .i64 0, .int .i64 0, .int .i64 0, .int .i64 0, .int .i64 0, .int .i64 0], [], some 0, none⟩,
    ⟨.mov, [.c (.nilp)], some 1, none⟩])
    (.seq
    (.region [
    ⟨.build [.int .i64 0, .int .i64 0, .int .i64 0, .int .i64 0, .int .i64 0, .int .i64 0] [(0, 1), (1, 1), (2, 1), (3, 1), (4, 1)], [.c (.int .i64 1), .c (.int .i64 2), .c (.int .i64 9), .c (.int .i64 2), .c (.int .i64 2)], none, none⟩,
    ⟨.alloc [.int .i64 0, .int .i64 0, .int .i64 0, .int .i64 0, .int .i64 0, .int .i64 0], [], some 2, none⟩,
    ⟨.store 6, [.tmp 1, .tmp 0], none, none⟩])
    (.seq
    (.region [
    ⟨.load (some 6), [.loc 2], none, none⟩,
    ⟨.call 156, [.tmp 0], none, none⟩,
    ⟨.call 21, [.tmp 1], none, none⟩,
    ⟨.mov, [.tmp 2], some 3, none⟩])
    (.seq
    (.region [
    ⟨.mov, [.loc 3], none, none⟩,
    ⟨.load (some 6), [.loc 2], none, none⟩,
    ⟨.call 160, [.tmp 1, .c (.int .i64 0), .c (.int .u32 0)], none, none⟩,
    ⟨.call 22, [.tmp 0, .tmp 2, .c (.int .u64 5)], none, none⟩])
    (.seq
    (.region [
    ⟨.mov, [.loc 3], none, none⟩,
    ⟨.load (some 6), [.loc 2], none, none⟩,
    ⟨.call 160, [.tmp 1, .c (.int .i64 0), .c (.int .u32 1)], none, none⟩,
    ⟨.call 22, [.tmp 0, .tmp 2, .c (.int .u64 6)], none, none⟩])
    (.seq
    (.region [
    ⟨.mov, [.loc 3], none, none⟩,
    ⟨.load (some 6), [.loc 2], none, none⟩,
    ⟨.call 159, [.tmp 1, .c (.int .i64 0)], none, none⟩,
    ⟨.call 22, [.tmp 0, .tmp 2, .c (.int .u64 2)], none, none⟩])
    (.seq
    (.region [
    ⟨.load (some 6), [.loc 2], none, none⟩,
    ⟨.mov, [.loc 3], none, none⟩,
    ⟨.store 6, [.loc 0, .tmp 0], none, none⟩,
    ⟨.mov, [.tmp 1], some 1, none⟩])
    .ret))))))) }
def ref06_New : AFn := F10.ref06_New
def ref06_Store : AFn := F10.ref06_Store
def conf_Config_Right : AFn := F10.conf_Config_Right
def docs_byteAt : AFn := F10.docs_byteAt
def conf_Config_Slot : AFn := F10.conf_Config_Slot
def conf_Config_Next : AFn := F10.conf_Config_Next
def conf_Config_Stat : AFn := F10.conf_Config_Stat
def conf_Config_Tick : AFn := F10.conf_Config_Tick
def conf_Config_Sys : AFn := F10.conf_Config_Sys
def conf_Config_Flag : AFn := F10.conf_Config_Flag
def cell_Mem_All : AFn := F10.cell_Mem_All
def put_from : AFn := { nloc := 6, npar := 2, res := [.cell 3 (some 10)], body :=
    (.seq
    (.region [
    ⟨.box, [.loc 0], some 2, none⟩,
    ⟨.alloc [.int .i64 0, .int .i64 0, .int .i64 0, .int .i64 0, .int .i64 0, .int .i64 0, .int .i64 0, .int .i64 0, .int .u64 0, .int .u32 0], [], some 3, none⟩])
    (.seq
    (.region [
    ⟨.load (some 6), [.loc 2], none, none⟩,
    ⟨.mov, [.loc 1], none, none⟩,
    ⟨.build [.int .i64 0, .int .i64 0, .int .i64 0, .int .i64 0, .int .i64 0, .int .i64 0, .int .i64 0, .int .i64 0, .int .u64 0, .int .u32 0] [(0, 6), (6, 1)], [.tmp 0, .tmp 1], none, none⟩,
    ⟨.alloc [.int .i64 0, .int .i64 0, .int .i64 0, .int .i64 0, .int .i64 0, .int .i64 0, .int .i64 0, .int .i64 0, .int .u64 0, .int .u32 0], [], some 4, none⟩,
    ⟨.store 10, [.tmp 3, .tmp 2], none, none⟩])
    (.seq
    (.seq
    (.region [
    ⟨.load (some 6), [.loc 2], none, none⟩,
    ⟨.mov, [.loc 1], none, none⟩,
    ⟨.call 159, [.tmp 0, .tmp 1], none, none⟩,
    ⟨.bin .geq, [.tmp 2, .c (.int .i64 0)], some 5, none⟩])
    (.cond (.loc 5)
      (.region [
    ⟨.faddr 7, [.loc 4], none, none⟩,
    ⟨.store 1, [.tmp 0, .c (.int .i64 1)], none, none⟩])
      .skip))
    (.seq
    (.region [
    ⟨.load (some 10), [.loc 4], none, none⟩,
    ⟨.store 10, [.loc 3, .tmp 0], none, none⟩])
    .ret)))) }
def put_ways : AFn := { nloc := 1, npar := 0, res := [.cell 0 (some 6)], body :=
    (.seq
    (.region [
    ⟨.alloc [.nilf, .nilf, .nilf, .nilf, .nilf, .nilf], [], some 0, none⟩])
    (.seq
    (.region [
    ⟨.build [.nilf, .nilf, .nilf, .nilf, .nilf, .nilf] [(1, 1), (2, 1), (3, 1), (4, 1), (5, 1)], [.c (.fn 214 [] []), .c (.fn 215 [] []), .c (.fn 216 [] []), .c (.fn 217 [] []), .c (.fn 218 [] [])], none, none⟩,
    ⟨.store 6, [.loc 0, .tmp 0], none, none⟩])
    .ret)) }
def cell_Mem_Load : AFn := F10.cell_Mem_Load
def slices_Clone_int : AFn := { nloc := 3, npar := 1, res := [.loc 1], body :=
    (.seq
    (.region [
    ⟨.mov, [.c (.nils)], some 1, none⟩])
    (.seq
    (.seq
    (.region [
    ⟨.mov, [.loc 0], none, none⟩,
    ⟨.eqv .slc false, [.tmp 0, .c (.nils)], some 2, none⟩])
    (.cond (.loc 2)
      (.seq
      (.region [
    ⟨.mov, [.c (.nils)], some 1, none⟩])
      .ret)
      .skip))
    (.seq
    (.region [
    ⟨.lit 0 1 [.int .i64 0] [], [], none, none⟩,
    ⟨.mov, [.loc 0], none, none⟩,
    ⟨.append 1 8, [.tmp 0, .tmp 1], none, none⟩,
    ⟨.mov, [.tmp 2], some 1, none⟩])
    .ret))) }
def ref09_There : AFn := F10.ref09_There
def cell_Mem_Len : AFn := F10.cell_Mem_Len
def docs_SameCells : AFn := F10.docs_SameCells
def ref09_Tail : AFn := F10.ref09_Tail
def ref06_Load : AFn := F10.ref06_Load
def ref09_Word : AFn := F10.ref09_Word
def ref09_Size : AFn := F10.ref09_Size
def ref09_Slot : AFn := F10.ref09_Slot
def ref06_CAS : AFn := F10.ref06_CAS
def ref09_Pack : AFn := F10.ref09_Pack
def ref09_Head : AFn := F10.ref09_Head
def put_Lay_look : AFn := { nloc := 4, npar := 2, res := [], body :=
    (.seq
    (.region [
    ⟨.mov, [.loc 0], none, none⟩,
    ⟨.nilc, [.tmp 0], none, none⟩,
    ⟨.faddr 0, [.tmp 1], none, none⟩,
    ⟨.mov, [.loc 1], none, none⟩,
    ⟨.call 219, [.tmp 2, .tmp 3], none, none⟩,
    ⟨.mov, [.tmp 4], some 2, none⟩])
    (.seq
    (.region [
    ⟨.mov, [.loc 0], none, none⟩,
    ⟨.mov, [.loc 0], none, none⟩,
    ⟨.nilc, [.tmp 1], none, none⟩,
    ⟨.faddr 11, [.tmp 2], none, none⟩,
    ⟨.load none, [.tmp 3], none, none⟩,
    ⟨.len, [.tmp 4], none, none⟩,
    ⟨.mov, [.loc 0], none, none⟩,
    ⟨.nilc, [.tmp 6], none, none⟩,
    ⟨.faddr 0, [.tmp 7], none, none⟩,
    ⟨.faddr 0, [.tmp 8], none, none⟩,
    ⟨.faddr 1, [.tmp 9], none, none⟩,
    ⟨.load none, [.tmp 10], none, none⟩,
    ⟨.mov, [.loc 2], none, none⟩,
    ⟨.mov, [.loc 0], none, none⟩,
    ⟨.nilc, [.tmp 13], none, none⟩,
    ⟨.faddr 0, [.tmp 14], none, none⟩,
    ⟨.faddr 0, [.tmp 15], none, none⟩,
    ⟨.faddr 1, [.tmp 16], none, none⟩,
    ⟨.load none, [.tmp 17], none, none⟩,
    ⟨.conv .u32, [.tmp 18], none, none⟩,
    ⟨.min, [.tmp 12, .tmp 19], none, none⟩,
    ⟨.conv .i64, [.tmp 20], none, none⟩,
    ⟨.bin .sub, [.tmp 11, .tmp 21], none, none⟩,
    ⟨.min, [.tmp 5, .tmp 22], none, none⟩,
    ⟨.conv .u32, [.tmp 23], none, none⟩,
    ⟨.nilc, [.tmp 0], none, none⟩,
    ⟨.faddr 10, [.tmp 25], none, none⟩,
    ⟨.store 1, [.tmp 26, .tmp 24], none, none⟩])
    (.seq
    (.region [
    ⟨.mov, [.loc 0], none, none⟩,
    ⟨.nilc, [.tmp 0], none, none⟩,
    ⟨.faddr 0, [.tmp 1], none, none⟩,
    ⟨.faddr 7, [.tmp 2], none, none⟩,
    ⟨.store 1, [.tmp 3, .c (.int .i64 2)], none, none⟩])
    (.seq
    (.region [
    ⟨.mov, [.loc 0], none, none⟩,
    ⟨.nilc, [.tmp 0], none, none⟩,
    ⟨.faddr 10, [.tmp 1], none, none⟩,
    ⟨.load none, [.tmp 2], none, none⟩,
    ⟨.bin .eql, [.tmp 3, .c (.int .u32 0)], some 3, none⟩])
    (.cond (.loc 3)
      (.region [
    ⟨.mov, [.loc 0], none, none⟩,
    ⟨.nilc, [.tmp 0], none, none⟩,
    ⟨.faddr 0, [.tmp 1], none, none⟩,
    ⟨.faddr 7, [.tmp 2], none, none⟩,
    ⟨.store 1, [.tmp 3, .c (.int .i64 0)], none, none⟩])
      .skip))))) }
def put_ring_slot : AFn := { nloc := 3, npar := 2, res := [.loc 2], body :=
    (.seq
    (.region [
    ⟨.mov, [.c (.int .i64 0)], some 2, none⟩])
    (.seq
    (.draw [0, 1, 2, 3, 4, 5, 6, 7, 8, 9, 10, 11, 12, 13, 14, 15, 16, 17] 0 [
    ⟨.mov, [.loc 0], none, none⟩,
    ⟨.nilc, [.tmp 0], none, none⟩,
    ⟨.faddr 0, [.tmp 1], none, none⟩,
    ⟨.load (some 6), [.tmp 2], none, none⟩,
    ⟨.mov, [.loc 0], none, none⟩,
    ⟨.nilc, [.tmp 4], none, none⟩,
    ⟨.faddr 6, [.tmp 5], none, none⟩,
    ⟨.load none, [.tmp 6], none, none⟩,
    ⟨.mov, [.loc 0], none, none⟩,
    ⟨.nilc, [.tmp 8], none, none⟩,
    ⟨.faddr 8, [.tmp 9], none, none⟩,
    ⟨.load none, [.tmp 10], none, none⟩,
    ⟨.call 182, [.tmp 11], none, none⟩,
    ⟨.mov, [.loc 1], none, none⟩,
    ⟨.conv .u32, [.tmp 13], none, none⟩,
    ⟨.bin .add, [.tmp 12, .tmp 14], none, none⟩,
    ⟨.call 160, [.tmp 3, .tmp 7, .tmp 15], none, none⟩,
    ⟨.mov, [.tmp 16], some 2, none⟩] [(3, [13]), (7, [13])])
    .ret)) }
def put_ring_change : AFn := { nloc := 6, npar := 3, res := [.loc 3], body :=
    (.seq
    (.region [
    ⟨.mov, [.c (.bool false)], some 3, none⟩])
    (.seq
    (.draw [0, 1, 2, 3, 4, 5, 6, 7, 8, 9, 10, 11, 12, 13, 14, 15, 16] 0 [
    ⟨.mov, [.loc 1], none, none⟩,
    ⟨.mov, [.loc 0], none, none⟩,
    ⟨.nilc, [.tmp 1], none, none⟩,
    ⟨.faddr 0, [.tmp 2], none, none⟩,
    ⟨.load (some 6), [.tmp 3], none, none⟩,
    ⟨.mov, [.loc 0], none, none⟩,
    ⟨.nilc, [.tmp 5], none, none⟩,
    ⟨.faddr 6, [.tmp 6], none, none⟩,
    ⟨.load none, [.tmp 7], none, none⟩,
    ⟨.call 159, [.tmp 4, .tmp 8], none, none⟩,
    ⟨.mov, [.loc 0], none, none⟩,
    ⟨.nilc, [.tmp 10], none, none⟩,
    ⟨.faddr 8, [.tmp 11], none, none⟩,
    ⟨.load none, [.tmp 12], none, none⟩,
    ⟨.mov, [.loc 2], none, none⟩,
    ⟨.call 23, [.tmp 0, .tmp 9, .tmp 13, .tmp 14], none, none⟩,
    ⟨.mov, [.tmp 15], some 4, none⟩] [(13, [0])])
    (.seq
    (.region [
    ⟨.mov, [.loc 0], none, none⟩,
    ⟨.nilc, [.tmp 0], none, none⟩,
    ⟨.faddr 7, [.tmp 1], none, none⟩,
    ⟨.store 1, [.tmp 2, .c (.int .i64 1)], none, none⟩])
    (.seq
    (.seq
    (.region [
    ⟨.mov, [.loc 4], some 5, none⟩])
    (.cond (.loc 5)
      (.region [
    ⟨.mov, [.loc 0], none, none⟩,
    ⟨.nilc, [.tmp 0], none, none⟩,
    ⟨.faddr 7, [.tmp 1], none, none⟩,
    ⟨.store 1, [.tmp 2, .c (.int .i64 0)], none, none⟩])
      .skip))
    (.seq
    (.region [
    ⟨.mov, [.loc 4], none, none⟩,
    ⟨.mov, [.tmp 0], some 3, none⟩])
    .ret))))) }
def word_Grow : AFn := { nloc := 3, npar := 2, res := [.loc 2], body :=
    (.seq
    (.region [
    ⟨.mov, [.c (.int .u64 0)], some 2, none⟩])
    (.seq
    (.region [
    ⟨.mov, [.loc 0], none, none⟩,
    ⟨.call 179, [.tmp 0], none, none⟩,
    ⟨.mov, [.loc 0], none, none⟩,
    ⟨.call 182, [.tmp 2], none, none⟩,
    ⟨.mov, [.loc 1], none, none⟩,
    ⟨.bin .add, [.tmp 3, .tmp 4], none, none⟩,
    ⟨.call 183, [.tmp 1, .tmp 5], none, none⟩,
    ⟨.mov, [.tmp 6], some 2, none⟩])
    .ret)) }
def cell_Mem_access : AFn := F10.cell_Mem_access
def cell_Mem_Store_1 : AFn := F10.cell_Mem_Store_1
def conf_own_at : AFn := F10.conf_own_at
def slices_DeleteFunc_int : AFn := { nloc := 9, npar := 2, res := [.loc 2], body :=
    (.seq
    (.region [
    ⟨.mov, [.c (.nils)], some 2, none⟩])
    (.seq
    (.region [
    ⟨.mov, [.loc 0], none, none⟩,
    ⟨.mov, [.loc 1], none, none⟩,
    ⟨.call 97, [.tmp 0, .tmp 1], none, none⟩,
    ⟨.mov, [.tmp 2], some 3, none⟩])
    (.seq
    (.seq
    (.region [
    ⟨.mov, [.loc 3], none, none⟩,
    ⟨.bin .eql, [.tmp 0, .c (.int .i64 (-1))], some 6, none⟩])
    (.cond (.loc 6)
      (.seq
      (.region [
    ⟨.mov, [.loc 0], none, none⟩,
    ⟨.mov, [.tmp 0], some 2, none⟩])
      .ret)
      .skip))
    (.seq
    (.seq
    (.region [
    ⟨.mov, [.loc 3], none, none⟩,
    ⟨.bin .add, [.tmp 0, .c (.int .i64 1)], none, none⟩,
    ⟨.mov, [.tmp 1], some 4, none⟩])
    (.block 0
    (.loop
    (.seq
    (.seq
    (.region [
    ⟨.mov, [.loc 4], none, none⟩,
    ⟨.mov, [.loc 0], none, none⟩,
    ⟨.len, [.tmp 1], none, none⟩,
    ⟨.bin .lss, [.tmp 0, .tmp 2], some 7, none⟩])
    (.cond (.loc 7)
      .skip
      (.exit 0)))
    (.seq
    (.block 1
    (.seq
    (.region [
    ⟨.mov, [.loc 0], none, none⟩,
    ⟨.mov, [.loc 4], none, none⟩,
    ⟨.iaddr 1 none, [.tmp 0, .tmp 1], none, none⟩,
    ⟨.load none, [.tmp 2], none, none⟩,
    ⟨.mov, [.tmp 3], some 5, none⟩])
    (.seq
    (.region [
    ⟨.mov, [.loc 1], none, none⟩,
    ⟨.mov, [.loc 5], none, none⟩,
    ⟨.callv, [.tmp 0, .tmp 1], none, none⟩,
    ⟨.not, [.tmp 2], some 8, none⟩])
    (.cond (.loc 8)
      (.seq
      (.region [
    ⟨.mov, [.loc 0], none, none⟩,
    ⟨.mov, [.loc 3], none, none⟩,
    ⟨.mov, [.loc 5], none, none⟩,
    ⟨.iaddr 1 none, [.tmp 0, .tmp 1], none, none⟩,
    ⟨.store 1, [.tmp 3, .tmp 2], none, none⟩])
      (.region [
    ⟨.mov, [.loc 3], none, none⟩,
    ⟨.bin .add, [.tmp 0, .c (.int .i64 1)], none, none⟩,
    ⟨.mov, [.tmp 1], some 3, none⟩]))
      .skip))))
    (.region [
    ⟨.mov, [.loc 4], none, none⟩,
    ⟨.bin .add, [.tmp 0, .c (.int .i64 1)], none, none⟩,
    ⟨.mov, [.tmp 1], some 4, none⟩]))))))
    (.seq
    (.region [
    ⟨.mov, [.loc 0], none, none⟩,
    ⟨.mov, [.loc 3], none, none⟩,
    ⟨.slice 1 true false false, [.tmp 0, .tmp 1], none, none⟩,
    ⟨.clear 1 [.int .i64 0], [.tmp 2], none, none⟩])
    (.seq
    (.region [
    ⟨.mov, [.loc 0], none, none⟩,
    ⟨.mov, [.loc 3], none, none⟩,
    ⟨.slice 1 false true false, [.tmp 0, .tmp 1], none, none⟩,
    ⟨.mov, [.tmp 2], some 2, none⟩])
    .ret)))))) }
def put_NewLay_1 : AFn := { nloc := 2, npar := 1, res := [.loc 1], body :=
    (.seq
    (.region [
    ⟨.mov, [.c (.bool false)], some 1, none⟩])
    (.seq
    (.region [
    ⟨.mov, [.loc 0], none, none⟩,
    ⟨.bin .lss, [.tmp 0, .c (.int .i64 0)], none, none⟩,
    ⟨.mov, [.tmp 1], some 1, none⟩])
    .ret)) }
def ref06_there : AFn := F10.ref06_there
def ref06_with : AFn := F10.ref06_with
def conf_within : AFn := F10.conf_within
def slices_Clone_uint64 : AFn := F10.slices_Clone_uint64
def put_Put_look : AFn := { nloc := 3, npar := 2, res := [], body :=
    (.seq
    (.region [
    ⟨.mov, [.loc 0], none, none⟩,
    ⟨.mov, [.loc 0], none, none⟩,
    ⟨.nilc, [.tmp 0], none, none⟩,
    ⟨.faddr 0, [.tmp 2], none, none⟩,
    ⟨.faddr 7, [.tmp 3], none, none⟩,
    ⟨.store 1, [.tmp 4, .c (.int .i64 2)], none, none⟩,
    ⟨.nilc, [.tmp 1], none, none⟩,
    ⟨.faddr 11, [.tmp 6], none, none⟩,
    ⟨.store 1, [.tmp 7, .c (.nils)], none, none⟩])
    (.seq
    (.draw [0, 1, 2, 3, 4, 5, 6, 7, 8, 9, 10, 11, 12] 0 [
    ⟨.mov, [.loc 0], none, none⟩,
    ⟨.nilc, [.tmp 0], none, none⟩,
    ⟨.faddr 0, [.tmp 1], none, none⟩,
    ⟨.mov, [.loc 1], none, none⟩,
    ⟨.call 219, [.tmp 2, .tmp 3], none, none⟩,
    ⟨.mov, [.loc 0], none, none⟩,
    ⟨.nilc, [.tmp 5], none, none⟩,
    ⟨.faddr 0, [.tmp 6], none, none⟩,
    ⟨.faddr 0, [.tmp 7], none, none⟩,
    ⟨.faddr 1, [.tmp 8], none, none⟩,
    ⟨.load none, [.tmp 9], none, none⟩,
    ⟨.conv .u32, [.tmp 10], none, none⟩,
    ⟨.bin .geq, [.tmp 4, .tmp 11], some 2, none⟩] [(10, [0])])
    (.cond (.loc 2)
      (.region [
    ⟨.mov, [.loc 0], none, none⟩,
    ⟨.nilc, [.tmp 0], none, none⟩,
    ⟨.faddr 0, [.tmp 1], none, none⟩,
    ⟨.faddr 7, [.tmp 2], none, none⟩,
    ⟨.store 1, [.tmp 3, .c (.int .i64 4)], none, none⟩])
      .skip))) }
def put_Put_lay : AFn := { nloc := 2, npar := 2, res := [], body :=
    (.seq
    (.draw [0, 1, 2, 3, 4, 5, 6, 7, 8, 9, 10] 0 [
    ⟨.mov, [.loc 1], none, none⟩,
    ⟨.mov, [.loc 0], none, none⟩,
    ⟨.nilc, [.tmp 1], none, none⟩,
    ⟨.faddr 0, [.tmp 2], none, none⟩,
    ⟨.call 210, [.tmp 3, .c (.int .i64 0)], none, none⟩,
    ⟨.mov, [.loc 0], none, none⟩,
    ⟨.nilc, [.tmp 5], none, none⟩,
    ⟨.faddr 10, [.tmp 6], none, none⟩,
    ⟨.load none, [.tmp 7], none, none⟩,
    ⟨.conv .u64, [.tmp 8], none, none⟩,
    ⟨.call 22, [.tmp 0, .tmp 4, .tmp 9], none, none⟩] [(8, [0])])
    (.region [
    ⟨.mov, [.loc 0], none, none⟩,
    ⟨.nilc, [.tmp 0], none, none⟩,
    ⟨.faddr 0, [.tmp 1], none, none⟩,
    ⟨.faddr 7, [.tmp 2], none, none⟩,
    ⟨.store 1, [.tmp 3, .c (.int .i64 3)], none, none⟩])) }
def put_Put_swing : AFn := { nloc := 3, npar := 2, res := [], body :=
    (.seq
    (.region [
    ⟨.mov, [.loc 0], none, none⟩,
    ⟨.nilc, [.tmp 0], none, none⟩,
    ⟨.faddr 0, [.tmp 1], none, none⟩,
    ⟨.mov, [.loc 1], none, none⟩,
    ⟨.mov, [.loc 0], none, none⟩,
    ⟨.nilc, [.tmp 4], none, none⟩,
    ⟨.faddr 0, [.tmp 5], none, none⟩,
    ⟨.faddr 8, [.tmp 6], none, none⟩,
    ⟨.load none, [.tmp 7], none, none⟩,
    ⟨.call 211, [.tmp 8, .c (.int .u32 1)], none, none⟩,
    ⟨.call 212, [.tmp 2, .tmp 3, .tmp 9], some 2, none⟩])
    (.cond (.loc 2)
      (.region [
    ⟨.mov, [.loc 0], none, none⟩,
    ⟨.nilc, [.tmp 0], none, none⟩,
    ⟨.faddr 12, [.tmp 1], none, none⟩,
    ⟨.store 1, [.tmp 2, .c (.nils)], none, none⟩])
      .skip)) }
def put_Put_take : AFn := { nloc := 3, npar := 2, res := [], body :=
    (.seq
    (.draw [0, 1, 2, 3, 4, 5, 6, 7, 8, 9, 10, 11, 12, 13, 14, 15, 16, 17, 18, 19, 20, 21, 22, 23, 24, 25] 0 [
    ⟨.mov, [.loc 0], none, none⟩,
    ⟨.mov, [.loc 0], none, none⟩,
    ⟨.nilc, [.tmp 1], none, none⟩,
    ⟨.faddr 11, [.tmp 2], none, none⟩,
    ⟨.load none, [.tmp 3], none, none⟩,
    ⟨.mov, [.loc 1], none, none⟩,
    ⟨.mov, [.loc 0], none, none⟩,
    ⟨.nilc, [.tmp 6], none, none⟩,
    ⟨.faddr 0, [.tmp 7], none, none⟩,
    ⟨.mov, [.loc 0], none, none⟩,
    ⟨.nilc, [.tmp 9], none, none⟩,
    ⟨.faddr 11, [.tmp 10], none, none⟩,
    ⟨.load none, [.tmp 11], none, none⟩,
    ⟨.len, [.tmp 12], none, none⟩,
    ⟨.mov, [.loc 0], none, none⟩,
    ⟨.call 220, [.tmp 14], none, none⟩,
    ⟨.conv .i64, [.tmp 15], none, none⟩,
    ⟨.bin .sub, [.tmp 13, .tmp 16], none, none⟩,
    ⟨.call 210, [.tmp 8, .tmp 17], none, none⟩,
    ⟨.call 24, [.tmp 5, .tmp 18], none, none⟩,
    ⟨.conv .i64, [.tmp 19], none, none⟩,
    ⟨.lit 1 1 [.int .i64 0] [(0, 1)], [.tmp 20], none, none⟩,
    ⟨.append 1 8, [.tmp 4, .tmp 21], none, none⟩,
    ⟨.nilc, [.tmp 0], none, none⟩,
    ⟨.faddr 11, [.tmp 23], none, none⟩,
    ⟨.store 1, [.tmp 24, .tmp 22], none, none⟩] [(4, [16, 19, 20, 22]), (12, [16])])
    (.seq
    (.draw [0, 1, 2, 3, 4, 5, 6, 7, 8] 0 [
    ⟨.mov, [.loc 0], none, none⟩,
    ⟨.nilc, [.tmp 0], none, none⟩,
    ⟨.faddr 11, [.tmp 1], none, none⟩,
    ⟨.load none, [.tmp 2], none, none⟩,
    ⟨.len, [.tmp 3], none, none⟩,
    ⟨.mov, [.loc 0], none, none⟩,
    ⟨.call 220, [.tmp 5], none, none⟩,
    ⟨.conv .i64, [.tmp 6], none, none⟩,
    ⟨.bin .eql, [.tmp 4, .tmp 7], some 2, none⟩] [(3, [7])])
    (.cond (.loc 2)
      (.region [
    ⟨.mov, [.loc 0], none, none⟩,
    ⟨.nilc, [.tmp 0], none, none⟩,
    ⟨.faddr 0, [.tmp 1], none, none⟩,
    ⟨.faddr 7, [.tmp 2], none, none⟩,
    ⟨.store 1, [.tmp 3, .c (.int .i64 5)], none, none⟩])
      .skip))) }
def put_Put_cut : AFn := { nloc := 3, npar := 2, res := [], body :=
    (.seq
    (.draw [0, 1, 2, 3, 4, 5, 6, 7, 8, 9, 10, 11, 12] 0 [
    ⟨.mov, [.loc 0], none, none⟩,
    ⟨.nilc, [.tmp 0], none, none⟩,
    ⟨.faddr 0, [.tmp 1], none, none⟩,
    ⟨.mov, [.loc 1], none, none⟩,
    ⟨.mov, [.loc 0], none, none⟩,
    ⟨.nilc, [.tmp 4], none, none⟩,
    ⟨.faddr 0, [.tmp 5], none, none⟩,
    ⟨.faddr 8, [.tmp 6], none, none⟩,
    ⟨.load none, [.tmp 7], none, none⟩,
    ⟨.mov, [.loc 0], none, none⟩,
    ⟨.call 220, [.tmp 9], none, none⟩,
    ⟨.call 221, [.tmp 8, .tmp 10], none, none⟩,
    ⟨.call 212, [.tmp 2, .tmp 3, .tmp 11], some 2, none⟩] [(8, [11])])
    (.cond (.loc 2)
      (.draw [0, 1, 2, 3, 4, 5, 6, 7, 8, 9, 10, 11, 12, 13] 0 [
    ⟨.mov, [.loc 0], none, none⟩,
    ⟨.mov, [.loc 0], none, none⟩,
    ⟨.nilc, [.tmp 1], none, none⟩,
    ⟨.faddr 11, [.tmp 2], none, none⟩,
    ⟨.load none, [.tmp 3], none, none⟩,
    ⟨.mov, [.loc 0], none, none⟩,
    ⟨.nilc, [.tmp 5], none, none⟩,
    ⟨.faddr 10, [.tmp 6], none, none⟩,
    ⟨.load none, [.tmp 7], none, none⟩,
    ⟨.lit 1 1 [.int .i64 0] [(0, 1)], [.tmp 8], none, none⟩,
    ⟨.append 1 8, [.tmp 4, .tmp 9], none, none⟩,
    ⟨.nilc, [.tmp 0], none, none⟩,
    ⟨.faddr 12, [.tmp 11], none, none⟩,
    ⟨.store 1, [.tmp 12, .tmp 10], none, none⟩] [(4, [10])])
      .skip)) }
def cell_Mem_Load_1 : AFn := F10.cell_Mem_Load_1
def ref05_Right : AFn := F10.ref05_Right
def put_ring_load : AFn := { nloc := 3, npar := 2, res := [.loc 2], body :=
    (.seq
    (.region [
    ⟨.mov, [.c (.int .u32 0)], some 2, none⟩])
    (.seq
    (.region [
    ⟨.mov, [.loc 0], none, none⟩,
    ⟨.mov, [.loc 0], none, none⟩,
    ⟨.mov, [.loc 1], none, none⟩,
    ⟨.mov, [.loc 0], none, none⟩,
    ⟨.nilc, [.tmp 3], none, none⟩,
    ⟨.faddr 0, [.tmp 4], none, none⟩,
    ⟨.load (some 6), [.tmp 5], none, none⟩,
    ⟨.mov, [.loc 0], none, none⟩,
    ⟨.nilc, [.tmp 7], none, none⟩,
    ⟨.faddr 6, [.tmp 8], none, none⟩,
    ⟨.load none, [.tmp 9], none, none⟩,
    ⟨.call 159, [.tmp 6, .tmp 10], none, none⟩,
    ⟨.call 24, [.tmp 2, .tmp 11], none, none⟩,
    ⟨.nilc, [.tmp 0], none, none⟩,
    ⟨.faddr 8, [.tmp 13], none, none⟩,
    ⟨.store 1, [.tmp 14, .tmp 12], none, none⟩,
    ⟨.nilc, [.tmp 1], none, none⟩,
    ⟨.faddr 9, [.tmp 16], none, none⟩,
    ⟨.store 1, [.tmp 17, .c (.int .u32 0)], none, none⟩])
    (.seq
    (.region [
    ⟨.mov, [.loc 0], none, none⟩,
    ⟨.nilc, [.tmp 0], none, none⟩,
    ⟨.faddr 8, [.tmp 1], none, none⟩,
    ⟨.load none, [.tmp 2], none, none⟩,
    ⟨.call 178, [.tmp 3], none, none⟩,
    ⟨.mov, [.tmp 4], some 2, none⟩])
    .ret))) }
def word_Tail : AFn := F10.word_Tail
def cell_Mem_CAS : AFn := F10.cell_Mem_CAS
def word_Pack : AFn := F10.word_Pack
def word_Head : AFn := F10.word_Head
def cell_Mem_there : AFn := F10.cell_Mem_there
def cell_counts_note : AFn := F10.cell_counts_note
def slices_IndexFunc_int : AFn := { nloc := 8, npar := 2, res := [.loc 2], body :=
    (.seq
    (.region [
    ⟨.mov, [.c (.int .i64 0)], some 2, none⟩])
    (.seq
    (.seq
    (.region [
    ⟨.mov, [.loc 0], none, none⟩,
    ⟨.len, [.tmp 0], some 4, none⟩,
    ⟨.mov, [.c (.int .i64 0)], some 5, none⟩])
    (.block 0
    (.loop
    (.seq
    (.region [
    ⟨.bin .lss, [.loc 5, .loc 4], some 6, none⟩])
    (.seq
    (.cond (.loc 6)
      .skip
      (.exit 0))
    (.seq
    (.block 1
    (.seq
    (.region [
    ⟨.mov, [.loc 5], none, none⟩,
    ⟨.mov, [.tmp 0], some 3, none⟩])
    (.seq
    (.region [
    ⟨.mov, [.loc 1], none, none⟩,
    ⟨.mov, [.loc 0], none, none⟩,
    ⟨.mov, [.loc 3], none, none⟩,
    ⟨.iaddr 1 none, [.tmp 1, .tmp 2], none, none⟩,
    ⟨.load none, [.tmp 3], none, none⟩,
    ⟨.callv, [.tmp 0, .tmp 4], some 7, none⟩])
    (.cond (.loc 7)
      (.seq
      (.region [
    ⟨.mov, [.loc 3], none, none⟩,
    ⟨.mov, [.tmp 0], some 2, none⟩])
      .ret)
      .skip))))
    (.region [
    ⟨.bin .add, [.loc 5, .c (.int .i64 1)], none, none⟩,
    ⟨.mov, [.tmp 0], some 5, none⟩])))))))
    (.seq
    (.region [
    ⟨.mov, [.c (.int .i64 (-1))], some 2, none⟩])
    .ret))) }
def put_Put_half : AFn := { nloc := 2, npar := 1, res := [.loc 1], body :=
    (.seq
    (.region [
    ⟨.mov, [.c (.int .u32 0)], some 1, none⟩])
    (.seq
    (.region [
    ⟨.mov, [.loc 0], none, none⟩,
    ⟨.nilc, [.tmp 0], none, none⟩,
    ⟨.faddr 0, [.tmp 1], none, none⟩,
    ⟨.faddr 0, [.tmp 2], none, none⟩,
    ⟨.faddr 1, [.tmp 3], none, none⟩,
    ⟨.load none, [.tmp 4], none, none⟩,
    ⟨.bin .quo, [.tmp 5, .c (.int .i64 2)], none, none⟩,
    ⟨.conv .u32, [.tmp 6], none, none⟩,
    ⟨.mov, [.tmp 7], some 1, none⟩])
    .ret)) }
def word_Drop : AFn := { nloc := 3, npar := 2, res := [.loc 2], body :=
    (.seq
    (.region [
    ⟨.mov, [.c (.int .u64 0)], some 2, none⟩])
    (.seq
    (.region [
    ⟨.mov, [.loc 0], none, none⟩,
    ⟨.call 179, [.tmp 0], none, none⟩,
    ⟨.mov, [.loc 0], none, none⟩,
    ⟨.call 182, [.tmp 2], none, none⟩,
    ⟨.mov, [.loc 1], none, none⟩,
    ⟨.bin .sub, [.tmp 3, .tmp 4], none, none⟩,
    ⟨.call 183, [.tmp 1, .tmp 5], none, none⟩,
    ⟨.mov, [.tmp 6], some 2, none⟩])
    .ret)) }
def word_Len : AFn := F10.word_Len
def cell_Mem_CAS_1 : AFn := F10.cell_Mem_CAS_1
end Go.Am.F09
end
section
namespace Go.Am.F10
variable {X : Type}
def c_conf_within : AFun X := amFunc [] conf_within
def c_conf_Config_Right : AFun X := amFunc [(176, c_conf_within)] conf_Config_Right
def c_conf_Config_Cells : AFun X := amFunc [(157, c_conf_Config_Right)] conf_Config_Cells
def c_cell_New : AFun X := amFunc [] cell_New
def c_conf_own_at : AFun X := amFunc [(157, c_conf_Config_Right), (176, c_conf_within)] conf_own_at
def c_conf_Config_Slot : AFun X := amFunc [(157, c_conf_Config_Right), (177, c_conf_own_at)] conf_Config_Slot
def c_cell_Mem_there : AFun X := amFunc [] cell_Mem_there
def c_cell_counts_note : AFun X := amFunc [] cell_counts_note
def c_cell_Mem_Store_1 : AFun X := amFunc [] cell_Mem_Store_1
def c_cell_Mem_CAS_1 : AFun X := amFunc [] cell_Mem_CAS_1
def c_cell_Mem_Load_1 : AFun X := amFunc [] cell_Mem_Load_1
def c_cell_Mem_access : AFun X := amFunc [(56, c_cell_Mem_there), (71, c_cell_counts_note), (49, c_cell_Mem_Store_1), (51, c_cell_Mem_CAS_1), (52, c_cell_Mem_Load_1)] cell_Mem_access
def c_cell_Mem_Store : AFun X := amFunc [(50, c_cell_Mem_access), (49, c_cell_Mem_Store_1)] cell_Mem_Store
def c_conf_Config_Word : AFun X := amFunc [(177, c_conf_own_at)] conf_Config_Word
def c_law10_rings : AFun X := amFunc [(156, c_conf_Config_Cells), (21, c_cell_New), (160, c_conf_Config_Slot), (22, c_cell_Mem_Store), (159, c_conf_Config_Word)] law10_rings
def c_get_New : AFun X := amFunc [(159, c_conf_Config_Word)] get_New
def c_get_Get_Done : AFun X := amFunc [] get_Get_Done
def c_cell_Mem_Load : AFun X := amFunc [(50, c_cell_Mem_access), (52, c_cell_Mem_Load_1)] cell_Mem_Load
def c_word_Tail : AFun X := amFunc [] word_Tail
def c_word_Head : AFun X := amFunc [] word_Head
def c_word_Len : AFun X := amFunc [(182, c_word_Tail), (179, c_word_Head)] word_Len
def c_get_Get_look : AFun X := amFunc [(159, c_conf_Config_Word), (24, c_cell_Mem_Load), (178, c_word_Len)] get_Get_look
def c_get_Get_copy : AFun X := amFunc [(179, c_word_Head), (160, c_conf_Config_Slot), (24, c_cell_Mem_Load)] get_Get_copy
def c_word_Pack : AFun X := amFunc [] word_Pack
def c_word_Gain : AFun X := amFunc [(179, c_word_Head), (182, c_word_Tail), (183, c_word_Pack)] word_Gain
def c_cell_Mem_CAS : AFun X := amFunc [(50, c_cell_Mem_access), (51, c_cell_Mem_CAS_1)] cell_Mem_CAS
def c_get_Get_gain : AFun X := amFunc [(159, c_conf_Config_Word), (180, c_word_Gain), (23, c_cell_Mem_CAS)] get_Get_gain
def c_get_Get_Step : AFun X := amFunc [(138, c_get_Get_Done), (166, c_get_Get_look), (167, c_get_Get_copy), (168, c_get_Get_gain), (49, c_cell_Mem_Store_1), (51, c_cell_Mem_CAS_1), (52, c_cell_Mem_Load_1)] get_Get_Step
def c_get_Get_Got : AFun X := amFunc [] get_Get_Got
def c_slices_Clone_uint64 : AFun X := amFunc [] slices_Clone_uint64
def c_cell_Mem_All : AFun X := amFunc [(61, c_slices_Clone_uint64)] cell_Mem_All
def c_docs_Ring : AFun X := amFunc [(47, c_cell_Mem_All), (156, c_conf_Config_Cells), (159, c_conf_Config_Word), (160, c_conf_Config_Slot)] docs_Ring
def c_kit_SameInts : AFun X := amFunc [] kit_SameInts
def c_docs_Thief : AFun X := amFunc [(136, c_docs_Ring), (159, c_conf_Config_Word), (24, c_cell_Mem_Load), (22, c_cell_Mem_Store)] docs_Thief
def c_get_Get_Tries : AFun X := amFunc [] get_Get_Tries
def c_get_All : AFun X := amFunc [(137, c_get_New), (140, c_get_Get_Step), (141, c_get_Get_Got)] get_All
def c_law10_works : AFun X := amFunc [(155, c_law10_rings), (137, c_get_New), (140, c_get_Get_Step), (141, c_get_Get_Got), (136, c_docs_Ring), (84, c_kit_SameInts), (139, c_docs_Thief), (142, c_get_Get_Tries), (145, c_get_All)] law10_works
def c_kit_Pick : AFun X := amFunc [] kit_Pick
def c_docs_byteAt : AFun X := amFunc [] docs_byteAt
def c_conf_Config_Next : AFun X := amFunc [(177, c_conf_own_at)] conf_Config_Next
def c_conf_Config_Stat : AFun X := amFunc [(177, c_conf_own_at)] conf_Config_Stat
def c_conf_Config_Tick : AFun X := amFunc [(177, c_conf_own_at)] conf_Config_Tick
def c_conf_Config_Sys : AFun X := amFunc [(177, c_conf_own_at)] conf_Config_Sys
def c_conf_Config_Flag : AFun X := amFunc [(177, c_conf_own_at)] conf_Config_Flag
def c_docs_Filled : AFun X := amFunc [(156, c_conf_Config_Cells), (157, c_conf_Config_Right), (158, c_docs_byteAt), (159, c_conf_Config_Word), (160, c_conf_Config_Slot), (161, c_conf_Config_Next), (162, c_conf_Config_Stat), (163, c_conf_Config_Tick), (164, c_conf_Config_Sys), (165, c_conf_Config_Flag)] docs_Filled
def c_ref06_New : AFun X := amFunc [] ref06_New
def c_ref06_there : AFun X := amFunc [] ref06_there
def c_ref06_with : AFun X := amFunc [] ref06_with
def c_ref06_Store : AFun X := amFunc [(72, c_ref06_there), (73, c_ref06_with)] ref06_Store
def c_cell_Mem_Ops : AFun X := amFunc [] cell_Mem_Ops
def c_docs_Config : AFun X := amFunc [] docs_Config
def c_ref05_Right : AFun X := amFunc [] ref05_Right
def c_ref09_There : AFun X := amFunc [(181, c_ref05_Right)] ref09_There
def c_ref09_Head : AFun X := amFunc [] ref09_Head
def c_ref09_Tail : AFun X := amFunc [] ref09_Tail
def c_ref09_Word : AFun X := amFunc [] ref09_Word
def c_ref06_Load : AFun X := amFunc [(72, c_ref06_there)] ref06_Load
def c_ref09_Size : AFun X := amFunc [(171, c_ref09_Tail), (170, c_ref09_Head)] ref09_Size
def c_ref09_Slot : AFun X := amFunc [(172, c_ref09_Word)] ref09_Slot
def c_ref09_Pack : AFun X := amFunc [] ref09_Pack
def c_ref06_CAS : AFun X := amFunc [(72, c_ref06_there), (73, c_ref06_with)] ref06_CAS
def c_cell_Mem_Len : AFun X := amFunc [] cell_Mem_Len
def c_docs_SameCells : AFun X := amFunc [] docs_SameCells
end Go.Am.F10
end
section
namespace Go.Am
section
variable {X : Type} {G : List (Nat × AFun X)}
def OB (x : Option (AV × Mem X)) (K : AV → Mem X → Prop) : Prop := ∃ v m, x = some (v, m) ∧ K v m
theorem OB_some {v : AV} {m : Mem X} {K : AV → Mem X → Prop} : OB (some (v, m)) K = K v m := by
  apply propext
  constructor
  · rintro ⟨v', m', h, hk⟩
    simp only [Option.some.injEq, Prod.mk.injEq] at h
    obtain ⟨rfl, rfl⟩ := h
    exact hk
  · intro h; exact ⟨v, m, rfl, h⟩
theorem OB_none {K : AV → Mem X → Prop} : OB none K = False := by simp [OB]
def WG (x : Option Bool) (K1 K2 : Prop) : Prop := (x = some true ∧ K1) ∨ (x = some false ∧ K2)
theorem WG_none {j : List AV} {K1 K2 : Prop} : WG (wantedA j none) K1 K2 = K1 := by simp [WG, wantedA]
def WO (G : List (Nat × AFun X)) : List AOper → (List AV → Mem X → Prop) → List AV → List AV → Mem X → Prop
  | [], Q, e, _, m => Q e m
  | o :: os, Q, e, rt, m => WG (wantedA rt o.guard) (OB (amOp G o.op (o.args.map (getS e rt)) m) fun v m' => WO G os Q (putL e o.dst v) (rt ++ [v]) m')
      (WO G os Q (putL e o.dst .skip) (rt ++ [.skip]) m)
theorem WO_out : ∀ {ops : List AOper} {Q : List AV → Mem X → Prop} {e rt : List AV} {m : Mem X}, WO G ops Q e rt m → ∃ e' m', amOps G ops e rt m = some (e', m') ∧ Q e' m'
  | [], Q, e, rt, m, h => ⟨e, m, rfl, h⟩
  | o :: os, Q, e, rt, m, h => by
    unfold WO at h
    rcases h with ⟨h1, v, m', h2, h3⟩ | ⟨h1, h3⟩
    · obtain ⟨e', m'', h4, h5⟩ := WO_out h3
      exact ⟨e', m'', by simp only [amOps, h1, h2, h4], h5⟩
    · obtain ⟨e', m'', h4, h5⟩ := WO_out h3
      exact ⟨e', m'', by simp only [amOps, h1, h4], h5⟩
def WT (G : List (Nat × AFun X)) (fin : List (Bool × List AV × AV × Mem X) → Mem X → Bool) : List AOper → (List AV → Mem X → Prop) → List AV → List AV → Mem X → List (Bool × List AV × AV × Mem X) → Prop
  | [], Q, e, _, m, tr => fin tr m = true ∧ Q e m
  | o :: os, Q, e, rt, m, tr => WG (wantedA rt o.guard) (OB (amOp G o.op (o.args.map (getS e rt)) m) fun v m' => WT G fin os Q (putL e o.dst v) (rt ++ [v]) m' (tr ++ [(true, o.args.map (getS e rt), v, m)]))
      (WT G fin os Q (putL e o.dst .skip) (rt ++ [.skip]) m (tr ++ [(false, o.args.map (getS e rt), .skip, m)]))
theorem WT_out {fin : List (Bool × List AV × AV × Mem X) → Mem X → Bool} : ∀ {ops : List AOper} {Q : List AV → Mem X → Prop} {e rt : List AV} {m : Mem X} {tr : List (Bool × List AV × AV × Mem X)}, WT G fin ops Q e rt m tr →
    ∃ e' m' tr', amOpsT G ops e rt m = some (e', m', tr') ∧ fin (tr ++ tr') m' = true ∧ Q e' m'
  | [], Q, e, rt, m, tr, h => ⟨e, m, [], rfl, by simpa using h.1, h.2⟩
  | o :: os, Q, e, rt, m, tr, h => by
    unfold WT at h
    rcases h with ⟨h1, v, m', h2, h3⟩ | ⟨h1, h3⟩
    · obtain ⟨e', m'', tr', h4, h5, h6⟩ := WT_out h3
      exact ⟨e', m'', (true, o.args.map (getS e rt), v, m) :: tr', by simp only [amOpsT, h1, h2, h4], by simpa using h5, h6⟩
    · obtain ⟨e', m'', tr', h4, h5, h6⟩ := WT_out h3
      exact ⟨e', m'', (false, o.args.map (getS e rt), .skip, m) :: tr', by simp only [amOpsT, h1, h4], by simpa using h5, h6⟩
def W (G : List (Nat × AFun X)) (c : AC) (Q : AX → List AV → Mem X → Prop) (e : List AV) (m : Mem X) : Prop := ∃ x e' m', am G c e m = some (x, e', m') ∧ Q x e' m'
variable {Q : AX → List AV → Mem X → Prop} {e : List AV} {m : Mem X}
theorem W_skip : W G .skip Q e m = Q .normal e m := by
  apply propext
  constructor
  · rintro ⟨x, e', m', h, hk⟩
    simp only [am, Option.some.injEq, Prod.mk.injEq] at h
    obtain ⟨rfl, rfl, rfl⟩ := h
    exact hk
  · intro h; exact ⟨_, _, _, rfl, h⟩
theorem W_exit {id : Nat} : W G (.exit id) Q e m = Q (.exit id) e m := by
  apply propext
  constructor
  · rintro ⟨x, e', m', h, hk⟩
    simp only [am, Option.some.injEq, Prod.mk.injEq] at h
    obtain ⟨rfl, rfl, rfl⟩ := h
    exact hk
  · intro h; exact ⟨_, _, _, rfl, h⟩
theorem W_ret : W G .ret Q e m = Q .ret e m := by
  apply propext
  constructor
  · rintro ⟨x, e', m', h, hk⟩
    simp only [am, Option.some.injEq, Prod.mk.injEq] at h
    obtain ⟨rfl, rfl, rfl⟩ := h
    exact hk
  · intro h; exact ⟨_, _, _, rfl, h⟩
theorem W_region {ops : List AOper} (h : WO G ops (Q .normal) e [] m) : W G (.region ops) Q e m := by
  obtain ⟨e', m', h1, h2⟩ := WO_out h
  exact ⟨_, _, _, by simp only [am, h1], h2⟩
theorem W_draw {p : List Nat} {k : Nat} {ops : List AOper} {stab : List (Nat × List Nat)} (h : WT G (fun tr m => stabOk G ops tr m stab) ops (Q .normal) e [] m []) : W G (.draw p k ops stab) Q e m := by
  obtain ⟨e', m', tr, h1, h2, h3⟩ := WT_out h
  exact ⟨_, _, _, by simp only [am, h1]; rw [if_pos (by simpa using h2)], h3⟩
def thenQ (Q : AX → List AV → Mem X → Prop) (K : List AV → Mem X → Prop) : AX → List AV → Mem X → Prop
  | .normal, e, m => K e m
  | x, e, m => Q x e m
theorem thenQ_normal {K : List AV → Mem X → Prop} : thenQ Q K .normal e m = K e m := rfl
theorem thenQ_exit {K : List AV → Mem X → Prop} {id : Nat} : thenQ Q K (.exit id) e m = Q (.exit id) e m := rfl
theorem thenQ_ret {K : List AV → Mem X → Prop} : thenQ Q K .ret e m = Q .ret e m := rfl
theorem W_seq {a b : AC} (h : W G a (thenQ Q (fun e m => W G b Q e m)) e m) : W G (.seq a b) Q e m := by
  obtain ⟨x, e', m', h1, h2⟩ := h
  cases x with
  | normal =>
    obtain ⟨y, e2, m2, h3, h4⟩ := h2
    exact ⟨y, e2, m2, by simp only [am, h1, h3], h4⟩
  | exit id => exact ⟨_, _, _, by simp only [am, h1], h2⟩
  | ret => exact ⟨_, _, _, by simp only [am, h1], h2⟩
theorem W_cond {c : Src} {t f : AC} {b : Bool} (hc : getS e [] c = .bool b) (h : if b = true then W G t Q e m else W G f Q e m) : W G (.cond c t f) Q e m := by
  cases b with
  | true => obtain ⟨x, e', m', h1, h2⟩ := h; exact ⟨x, e', m', by simp only [am, hc, h1, if_true], h2⟩
  | false => obtain ⟨x, e', m', h1, h2⟩ := h; exact ⟨x, e', m', by simp only [am, hc, h1]; rfl, h2⟩
def blockQ (id : Nat) (Q : AX → List AV → Mem X → Prop) : AX → List AV → Mem X → Prop
  | .exit id', e, m => if id' = id then Q .normal e m else Q (.exit id') e m
  | x, e, m => Q x e m
theorem blockQ_normal {id : Nat} : blockQ id Q .normal e m = Q .normal e m := rfl
theorem blockQ_ret {id : Nat} : blockQ id Q .ret e m = Q .ret e m := rfl
theorem blockQ_exit {id id' : Nat} : blockQ id Q (.exit id') e m = if id' = id then Q .normal e m else Q (.exit id') e m := rfl
theorem W_block {id : Nat} {b : AC} (h : W G b (blockQ id Q) e m) : W G (.block id b) Q e m := by
  obtain ⟨x, e', m', h1, h2⟩ := h
  cases x with
  | normal => exact ⟨_, _, _, by simp only [am, h1], h2⟩
  | exit id' =>
    simp only [blockQ] at h2
    by_cases hi : id' = id
    · rw [if_pos hi] at h2; exact ⟨_, _, _, by simp only [am, h1]; rw [if_pos hi], h2⟩
    · rw [if_neg hi] at h2; exact ⟨_, _, _, by simp only [am, h1]; rw [if_neg hi], h2⟩
  | ret => exact ⟨_, _, _, by simp only [am, h1], h2⟩
theorem W_mono {c : AC} {Q' : AX → List AV → Mem X → Prop} (h : W G c Q' e m) (hq : ∀ x e' m', Q' x e' m' → Q x e' m') : W G c Q e m := by
  obtain ⟨x, e', m', h1, h2⟩ := h
  exact ⟨x, e', m', h1, hq _ _ _ h2⟩
theorem W_loop {b : AC} (I : Nat → List AV → Mem X → Prop) (n : Nat) (hn : n < FUEL) (h0 : I n e m)
    (hs : ∀ n e m, I n e m → W G b (thenQ Q (fun e' m' => ∃ k, k < n ∧ I k e' m')) e m) : W G (.loop b) Q e m := by
  have key : ∀ (N n : Nat) (e : List AV) (m : Mem X), n < N → I n e m → ∃ x e' m', iter (am G b) N e m = some (x, e', m') ∧ Q x e' m' := by
    intro N
    induction N with
    | zero => intro n e m h; omega
    | succ N ih =>
      intro n e m hlt hI
      obtain ⟨x, e1, m1, h1, h2⟩ := hs n e m hI
      cases x with
      | normal =>
        obtain ⟨k, hk, hI'⟩ := h2
        obtain ⟨x, e2, m2, h3, h4⟩ := ih k e1 m1 (by omega) hI'
        exact ⟨x, e2, m2, by simp only [iter, h1, h3], h4⟩
      | exit id => exact ⟨_, _, _, by simp only [iter, h1], h2⟩
      | ret => exact ⟨_, _, _, by simp only [iter, h1], h2⟩
  exact key FUEL n e m hn h0
def Fn (G : List (Nat × AFun X)) (F : AFn) (args : List AV) (m : Mem X) (Q : AV → Mem X → Prop) : Prop := OB (amFunc G F args m) Q
def resQ (res : List ARes) (Q : AV → Mem X → Prop) : AX → List AV → Mem X → Prop
  | .exit _, _, _ => False
  | _, e, m => ∃ vs, resAll e m res = some vs ∧ Q (tupA vs) m
theorem Fn_of {F : AFn} {args : List AV} {Q : AV → Mem X → Prop} (hl : args.length = F.npar) (h : W G F.body (resQ F.res Q) (args ++ List.replicate (F.nloc - F.npar) .skip) m) : Fn G F args m Q := by
  obtain ⟨x, e', m', h1, h2⟩ := h
  cases x with
  | exit id => cases h2
  | normal =>
    obtain ⟨vs, h3, h4⟩ := h2
    exact ⟨_, _, by simp only [amFunc, h1, h3]; rw [if_pos hl], h4⟩
  | ret =>
    obtain ⟨vs, h3, h4⟩ := h2
    exact ⟨_, _, by simp only [amFunc, h1, h3]; rw [if_pos hl], h4⟩
end
end Go.Am
end
