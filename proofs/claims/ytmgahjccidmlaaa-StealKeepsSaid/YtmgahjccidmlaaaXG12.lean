import Derived.Test.YtmgahjccidmlaaaXG11
set_option linter.unusedSimpArgs false
set_option linter.unusedVariables false
section
namespace Go.Am.F11
set_option maxRecDepth 10000
def law11_StealKeeps : AFn := { nloc := 31, npar := 3, res := [.loc 4], body :=
    (.seq
    (.region [
    ⟨.box, [.loc 0], some 3, none⟩,
    ⟨.mov, [.c (.bool false)], some 4, none⟩])
    (.seq
    (.seq
    (.region [
    ⟨.mov, [.loc 2], none, none⟩,
    ⟨.len, [.tmp 0], none, none⟩,
    ⟨.bin .gtr, [.tmp 1, .c (.int .i64 150)], none, none⟩,
    ⟨.mov, [.tmp 2], none, none⟩,
    ⟨.mov, [.loc 1], none, some (3, false)⟩,
    ⟨.len, [.tmp 4], none, some (3, false)⟩,
    ⟨.bin .gtr, [.tmp 5, .c (.int .i64 40)], none, some (3, false)⟩,
    ⟨.pick, [.tmp 3, .c (.bool true), .tmp 6], some 19, none⟩])
    (.cond (.loc 19)
      (.seq
      (.region [
    ⟨.call 268, [], none, none⟩,
    ⟨.mov, [.tmp 0], some 4, none⟩])
      .ret)
      .skip))
    (.seq
    (.region [
    ⟨.load (some 6), [.loc 3], none, none⟩,
    ⟨.call 133, [.tmp 0], none, none⟩,
    ⟨.store 6, [.loc 3, .tmp 1], none, none⟩])
    (.seq
    (.region [
    ⟨.faddr 0, [.loc 3], none, none⟩,
    ⟨.load none, [.tmp 0], none, none⟩,
    ⟨.max, [.c (.int .i64 2), .tmp 1], none, none⟩,
    ⟨.faddr 0, [.loc 3], none, none⟩,
    ⟨.store 1, [.tmp 3, .tmp 2], none, none⟩])
    (.seq
    (.region [
    ⟨.faddr 0, [.loc 3], none, none⟩,
    ⟨.load none, [.tmp 0], none, none⟩,
    ⟨.bin .add, [.tmp 1, .c (.int .i64 1)], none, none⟩,
    ⟨.faddr 3, [.loc 3], none, none⟩,
    ⟨.store 1, [.tmp 3, .tmp 2], none, none⟩])
    (.seq
    (.region [
    ⟨.load (some 6), [.loc 3], none, none⟩,
    ⟨.mov, [.loc 1], none, none⟩,
    ⟨.call 134, [.tmp 0, .tmp 1], none, none⟩,
    ⟨.mov, [.tmp 2], some 5, none⟩])
    (.seq
    (.seq
    (.region [
    ⟨.mov, [.loc 5], none, none⟩,
    ⟨.len, [.tmp 0], none, none⟩,
    ⟨.bin .eql, [.tmp 1, .c (.int .i64 0)], some 20, none⟩])
    (.cond (.loc 20)
      (.seq
      (.region [
    ⟨.mov, [.c (.bool false)], some 4, none⟩])
      .ret)
      .skip))
    (.seq
    (.draw [0, 1, 2, 3, 4, 5, 6, 7, 8, 9, 10, 11, 12] 0 [
    ⟨.mov, [.loc 5], none, none⟩,
    ⟨.load (some 6), [.loc 3], none, none⟩,
    ⟨.call 159, [.tmp 1, .c (.int .i64 0)], none, none⟩,
    ⟨.mov, [.loc 5], none, none⟩,
    ⟨.load (some 6), [.loc 3], none, none⟩,
    ⟨.call 159, [.tmp 4, .c (.int .i64 0)], none, none⟩,
    ⟨.iaddr 1 none, [.tmp 3, .tmp 5], none, none⟩,
    ⟨.load none, [.tmp 6], none, none⟩,
    ⟨.conv .u32, [.tmp 7], none, none⟩,
    ⟨.conv .u64, [.tmp 8], none, none⟩,
    ⟨.shf .shl, [.tmp 9, .c (.int .u64 32)], none, none⟩,
    ⟨.iaddr 1 none, [.tmp 0, .tmp 2], none, none⟩,
    ⟨.store 1, [.tmp 11, .tmp 10], none, none⟩] [(4, [0])])
    (.seq
    (.draw [0, 1, 2, 3, 4, 5, 6, 7, 8, 9, 10, 11, 12, 13, 14, 15, 16] 0 [
    ⟨.mov, [.loc 5], none, none⟩,
    ⟨.load (some 6), [.loc 3], none, none⟩,
    ⟨.call 159, [.tmp 1, .c (.int .i64 0)], none, none⟩,
    ⟨.mov, [.loc 5], none, none⟩,
    ⟨.load (some 6), [.loc 3], none, none⟩,
    ⟨.call 159, [.tmp 4, .c (.int .i64 0)], none, none⟩,
    ⟨.iaddr 1 none, [.tmp 3, .tmp 5], none, none⟩,
    ⟨.load none, [.tmp 6], none, none⟩,
    ⟨.mov, [.loc 5], none, none⟩,
    ⟨.load (some 6), [.loc 3], none, none⟩,
    ⟨.call 159, [.tmp 9, .c (.int .i64 0)], none, none⟩,
    ⟨.iaddr 1 none, [.tmp 8, .tmp 10], none, none⟩,
    ⟨.load none, [.tmp 11], none, none⟩,
    ⟨.shf .shr, [.tmp 12, .c (.int .u64 32)], none, none⟩,
    ⟨.bin .or, [.tmp 7, .tmp 13], none, none⟩,
    ⟨.iaddr 1 none, [.tmp 0, .tmp 2], none, none⟩,
    ⟨.store 1, [.tmp 15, .tmp 14], none, none⟩] [(4, [0]), (7, [11]), (9, [0, 3])])
    (.seq
    (.region [
    ⟨.mov, [.loc 5], none, none⟩,
    ⟨.call 135, [.tmp 0], none, none⟩,
    ⟨.mov, [.tmp 1], none, none⟩,
    ⟨.extract 0, [.tmp 2], none, none⟩,
    ⟨.extract 1, [.tmp 2], none, none⟩,
    ⟨.alloc [.nils, .int .u64 0], [], none, none⟩,
    ⟨.mov, [.tmp 3], some 6, none⟩,
    ⟨.store 2, [.tmp 5, .tmp 4], none, none⟩])
    (.seq
    (.region [
    ⟨.load (some 6), [.loc 3], none, none⟩,
    ⟨.mov, [.loc 6], none, none⟩,
    ⟨.call 136, [.tmp 0, .tmp 1, .c (.int .i64 1)], none, none⟩,
    ⟨.mov, [.tmp 2], some 7, none⟩])
    (.seq
    (.region [
    ⟨.mov, [.c (.int .i64 1000)], some 8, none⟩])
    (.seq
    (.draw [0, 1, 2, 3, 4, 5, 6] 0 [
    ⟨.load (some 6), [.loc 3], none, none⟩,
    ⟨.call 270, [.tmp 0, .c (.int .i64 0), .c (.int .i64 1)], none, none⟩,
    ⟨.load (some 6), [.loc 3], none, none⟩,
    ⟨.mov, [.loc 8], none, none⟩,
    ⟨.call 185, [.tmp 2, .c (.int .i64 1), .tmp 3], none, none⟩,
    ⟨.mov, [.tmp 1], some 9, none⟩,
    ⟨.mov, [.tmp 4], some 10, none⟩] [(2, [0])])
    (.seq
    (.region [
    ⟨.mov, [.c (.nils)], some 11, none⟩])
    (.seq
    (.region [
    ⟨.mov, [.c (.bool false)], some 12, none⟩])
    (.seq
    (.seq
    (.region [
    ⟨.mov, [.c (.int .i64 0)], some 13, none⟩])
    (.block 0
    (.loop
    (.seq
    (.seq
    (.region [
    ⟨.mov, [.loc 13], none, none⟩,
    ⟨.mov, [.loc 2], none, none⟩,
    ⟨.len, [.tmp 1], none, none⟩,
    ⟨.bin .lss, [.tmp 0, .tmp 2], some 21, none⟩])
    (.cond (.loc 21)
      .skip
      (.exit 0)))
    (.seq
    (.block 1
    (.seq
    (.region [
    ⟨.load (some 6), [.loc 3], none, none⟩,
    ⟨.mov, [.loc 6], none, none⟩,
    ⟨.call 136, [.tmp 0, .tmp 1, .c (.int .i64 1)], none, none⟩,
    ⟨.mov, [.tmp 2], some 14, none⟩])
    (.seq
    (.region [
    ⟨.mov, [.loc 2], none, none⟩,
    ⟨.mov, [.loc 13], none, none⟩,
    ⟨.iaddr 2 none, [.tmp 0, .tmp 1], none, none⟩,
    ⟨.faddr 0, [.tmp 2], none, none⟩,
    ⟨.load none, [.tmp 3], none, none⟩,
    ⟨.call 87, [.tmp 4, .c (.int .i64 3)], some 22, none⟩])
    (.block 2
    (.seq
    (.region [
    ⟨.bin .eql, [.loc 22, .c (.int .i64 0)], none, none⟩,
    ⟨.mov, [.tmp 0], some 23, none⟩])
    (.cond (.loc 23)
      (.seq
      (.region [
    ⟨.mov, [.loc 9], none, none⟩,
    ⟨.mov, [.loc 6], none, none⟩,
    ⟨.call 274, [.tmp 0, .tmp 1], none, none⟩])
      (.seq
      (.region [
    ⟨.mov, [.loc 9], none, none⟩,
    ⟨.call 275, [.tmp 0], none, none⟩,
    ⟨.bin .gtr, [.tmp 1, .c (.int .i64 0)], none, none⟩,
    ⟨.mov, [.tmp 2], none, none⟩,
    ⟨.mov, [.loc 12], none, some (3, true)⟩,
    ⟨.not, [.tmp 4], none, some (3, true)⟩,
    ⟨.pick, [.tmp 3, .tmp 5, .c (.bool false)], some 24, none⟩])
      (.cond (.loc 24)
        (.seq
        (.region [
    ⟨.mov, [.c (.bool true)], some 12, none⟩])
        (.seq
        (.region [
    ⟨.mov, [.loc 14], none, none⟩,
    ⟨.len, [.tmp 0], none, none⟩,
    ⟨.mov, [.loc 14], none, none⟩,
    ⟨.len, [.tmp 2], none, none⟩,
    ⟨.bin .quo, [.tmp 3, .c (.int .i64 2)], none, none⟩,
    ⟨.bin .sub, [.tmp 1, .tmp 4], none, none⟩,
    ⟨.mov, [.tmp 5], some 15, none⟩])
        (.seq
        (.draw [0, 1, 2, 3, 4, 5, 6, 7, 8, 9, 10, 11, 12, 13, 14, 15, 16, 17, 18, 19, 20, 21, 22] 0 [
    ⟨.mov, [.loc 9], none, none⟩,
    ⟨.call 275, [.tmp 0], none, none⟩,
    ⟨.mov, [.loc 15], none, none⟩,
    ⟨.bin .neq, [.tmp 1, .tmp 2], none, none⟩,
    ⟨.mov, [.tmp 3], none, none⟩,
    ⟨.mov, [.loc 9], none, some (4, false)⟩,
    ⟨.call 276, [.tmp 5], none, some (4, false)⟩,
    ⟨.mov, [.loc 14], none, some (4, false)⟩,
    ⟨.mov, [.loc 15], none, some (4, false)⟩,
    ⟨.slice 1 false true false, [.tmp 7, .tmp 8], none, some (4, false)⟩,
    ⟨.call 84, [.tmp 6, .tmp 9], none, some (4, false)⟩,
    ⟨.not, [.tmp 10], none, some (4, false)⟩,
    ⟨.pick, [.tmp 4, .c (.bool true), .tmp 11], none, none⟩,
    ⟨.mov, [.tmp 12], none, none⟩,
    ⟨.load (some 6), [.loc 3], none, some (13, false)⟩,
    ⟨.mov, [.loc 6], none, some (13, false)⟩,
    ⟨.call 136, [.tmp 14, .tmp 15, .c (.int .i64 1)], none, some (13, false)⟩,
    ⟨.mov, [.loc 14], none, some (13, false)⟩,
    ⟨.mov, [.loc 15], none, some (13, false)⟩,
    ⟨.slice 1 true false false, [.tmp 17, .tmp 18], none, some (13, false)⟩,
    ⟨.call 84, [.tmp 16, .tmp 19], none, some (13, false)⟩,
    ⟨.not, [.tmp 20], none, some (13, false)⟩,
    ⟨.pick, [.tmp 13, .c (.bool true), .tmp 21], some 25, none⟩] [(9, [2]), (19, [11])])
        (.cond (.loc 25)
          (.seq
          (.region [
    ⟨.mov, [.c (.bool false)], some 4, none⟩])
          .ret)
          .skip))))
        .skip)))
      (.seq
      (.region [
    ⟨.bin .eql, [.loc 22, .c (.int .i64 1)], none, none⟩,
    ⟨.mov, [.tmp 0], some 26, none⟩])
      (.cond (.loc 26)
        (.seq
        (.region [
    ⟨.mov, [.loc 10], none, none⟩,
    ⟨.mov, [.loc 6], none, none⟩,
    ⟨.call 186, [.tmp 0, .tmp 1], some 27, none⟩])
        (.cond (.loc 27)
          (.seq
          (.region [
    ⟨.mov, [.loc 7], none, none⟩,
    ⟨.mov, [.loc 8], none, none⟩,
    ⟨.lit 1 1 [.int .i64 0] [(0, 1)], [.tmp 1], none, none⟩,
    ⟨.append 1 8, [.tmp 0, .tmp 2], none, none⟩,
    ⟨.mov, [.tmp 3], some 7, none⟩])
          (.seq
          (.region [
    ⟨.mov, [.loc 11], none, none⟩,
    ⟨.mov, [.loc 10], none, none⟩,
    ⟨.call 187, [.tmp 1], none, none⟩,
    ⟨.append 1 8, [.tmp 0, .tmp 2], none, none⟩,
    ⟨.mov, [.tmp 3], some 11, none⟩])
          (.seq
          (.region [
    ⟨.mov, [.loc 8], none, none⟩,
    ⟨.bin .add, [.tmp 0, .c (.int .i64 1)], none, none⟩,
    ⟨.mov, [.tmp 1], some 8, none⟩])
          (.region [
    ⟨.load (some 6), [.loc 3], none, none⟩,
    ⟨.mov, [.loc 8], none, none⟩,
    ⟨.call 185, [.tmp 0, .c (.int .i64 1), .tmp 1], none, none⟩,
    ⟨.mov, [.tmp 2], some 10, none⟩]))))
          .skip))
        (.draw [0, 1, 2, 3, 4, 5, 6, 7, 8, 9, 10, 11] 0 [
    ⟨.mov, [.loc 11], none, none⟩,
    ⟨.load (some 6), [.loc 3], none, none⟩,
    ⟨.mov, [.loc 6], none, none⟩,
    ⟨.mov, [.loc 2], none, none⟩,
    ⟨.mov, [.loc 13], none, none⟩,
    ⟨.iaddr 2 none, [.tmp 3, .tmp 4], none, none⟩,
    ⟨.faddr 1, [.tmp 5], none, none⟩,
    ⟨.load none, [.tmp 6], none, none⟩,
    ⟨.call 87, [.tmp 7, .c (.int .i64 3)], none, none⟩,
    ⟨.call 139, [.tmp 1, .tmp 2, .c (.int .i64 1), .tmp 8], none, none⟩,
    ⟨.append 1 8, [.tmp 0, .tmp 9], none, none⟩,
    ⟨.mov, [.tmp 10], some 11, none⟩] [(1, [9])])))))))))
    (.region [
    ⟨.mov, [.loc 13], none, none⟩,
    ⟨.bin .add, [.tmp 0, .c (.int .i64 1)], none, none⟩,
    ⟨.mov, [.tmp 1], some 13, none⟩]))))))
    (.seq
    (.seq
    (.region [
    ⟨.mov, [.c (.int .i64 0)], some 16, none⟩])
    (.block 3
    (.loop
    (.seq
    (.seq
    (.region [
    ⟨.mov, [.loc 16], none, none⟩,
    ⟨.bin .lss, [.tmp 0, .c (.int .i64 300)], none, none⟩,
    ⟨.mov, [.tmp 1], none, none⟩,
    ⟨.mov, [.loc 9], none, some (2, true)⟩,
    ⟨.call 277, [.tmp 3], none, some (2, true)⟩,
    ⟨.not, [.tmp 4], none, some (2, true)⟩,
    ⟨.pick, [.tmp 2, .tmp 5, .c (.bool false)], some 28, none⟩])
    (.cond (.loc 28)
      .skip
      (.exit 3)))
    (.seq
    (.block 4
    (.region [
    ⟨.mov, [.loc 9], none, none⟩,
    ⟨.mov, [.loc 6], none, none⟩,
    ⟨.call 274, [.tmp 0, .tmp 1], none, none⟩]))
    (.region [
    ⟨.mov, [.loc 16], none, none⟩,
    ⟨.bin .add, [.tmp 0, .c (.int .i64 1)], none, none⟩,
    ⟨.mov, [.tmp 1], some 16, none⟩]))))))
    (.seq
    (.region [
    ⟨.mov, [.loc 9], none, none⟩,
    ⟨.call 278, [.tmp 0], none, none⟩,
    ⟨.mov, [.tmp 1], none, none⟩,
    ⟨.extract 0, [.tmp 2], none, none⟩,
    ⟨.extract 1, [.tmp 2], none, none⟩,
    ⟨.mov, [.tmp 3], some 17, none⟩,
    ⟨.mov, [.tmp 4], some 18, none⟩])
    (.seq
    (.seq
    (.region [
    ⟨.mov, [.loc 9], none, none⟩,
    ⟨.call 277, [.tmp 0], none, none⟩,
    ⟨.not, [.tmp 1], none, none⟩,
    ⟨.mov, [.tmp 2], none, none⟩,
    ⟨.mov, [.loc 9], none, some (3, false)⟩,
    ⟨.call 279, [.tmp 4], none, some (3, false)⟩,
    ⟨.len, [.tmp 5], none, some (3, false)⟩,
    ⟨.bin .gtr, [.tmp 6, .c (.int .i64 0)], none, some (3, false)⟩,
    ⟨.pick, [.tmp 3, .c (.bool true), .tmp 7], none, none⟩,
    ⟨.mov, [.tmp 8], none, none⟩,
    ⟨.mov, [.loc 18], none, some (9, false)⟩,
    ⟨.mov, [.loc 9], none, some (9, false)⟩,
    ⟨.call 275, [.tmp 11], none, some (9, false)⟩,
    ⟨.bin .gtr, [.tmp 12, .c (.int .i64 0)], none, some (9, false)⟩,
    ⟨.eqv .bool true, [.tmp 10, .tmp 13], none, some (9, false)⟩,
    ⟨.pick, [.tmp 9, .c (.bool true), .tmp 14], some 29, none⟩])
    (.cond (.loc 29)
      (.seq
      (.region [
    ⟨.mov, [.c (.bool false)], some 4, none⟩])
      .ret)
      .skip))
    (.seq
    (.seq
    (.region [
    ⟨.mov, [.loc 18], some 30, none⟩])
    (.cond (.loc 30)
      (.region [
    ⟨.mov, [.loc 11], none, none⟩,
    ⟨.mov, [.loc 17], none, none⟩,
    ⟨.lit 1 1 [.int .i64 0] [(0, 1)], [.tmp 1], none, none⟩,
    ⟨.append 1 8, [.tmp 0, .tmp 2], none, none⟩,
    ⟨.mov, [.tmp 3], some 11, none⟩])
      .skip))
    (.seq
    (.region [
    ⟨.mov, [.loc 11], none, none⟩,
    ⟨.load (some 6), [.loc 3], none, none⟩,
    ⟨.mov, [.loc 6], none, none⟩,
    ⟨.call 136, [.tmp 1, .tmp 2, .c (.int .i64 0)], none, none⟩,
    ⟨.append 1 8, [.tmp 0, .tmp 3], none, none⟩,
    ⟨.mov, [.tmp 4], some 11, none⟩])
    (.seq
    (.region [
    ⟨.mov, [.loc 11], none, none⟩,
    ⟨.load (some 6), [.loc 3], none, none⟩,
    ⟨.mov, [.loc 6], none, none⟩,
    ⟨.call 136, [.tmp 1, .tmp 2, .c (.int .i64 1)], none, none⟩,
    ⟨.append 1 8, [.tmp 0, .tmp 3], none, none⟩,
    ⟨.mov, [.tmp 4], some 11, none⟩])
    (.seq
    (.region [
    ⟨.mov, [.loc 7], none, none⟩,
    ⟨.mov, [.loc 11], none, none⟩,
    ⟨.call 280, [.tmp 0, .tmp 1], none, none⟩,
    ⟨.mov, [.tmp 2], none, none⟩,
    ⟨.call 268, [], none, some (3, true)⟩,
    ⟨.pick, [.tmp 3, .tmp 4, .c (.bool false)], none, none⟩,
    ⟨.mov, [.tmp 5], some 4, none⟩])
    .ret))))))))))))))))))))))) }
def cell_New : AFn := F09.cell_New
def steal_New : AFn := { nloc := 7, npar := 3, res := [.loc 4], body :=
    (.seq
    (.region [
    ⟨.box, [.loc 0], some 3, none⟩,
    ⟨.mov, [.c (.nilp)], some 4, none⟩])
    (.seq
    (.region [
    ⟨.load (some 6), [.loc 3], none, none⟩,
    ⟨.mov, [.loc 1], none, none⟩,
    ⟨.mov, [.loc 2], none, none⟩,
    ⟨.build [.int .i64 0, .int .i64 0, .int .i64 0, .int .i64 0, .int .i64 0, .int .i64 0, .nilp, .int .i64 0, .int .i64 0, .int .i64 0, .int .u64 0, .nils, .int .i64 0] [(0, 6), (7, 1), (8, 1)], [.tmp 0, .tmp 1, .tmp 2], none, none⟩,
    ⟨.box, [.tmp 3], none, none⟩,
    ⟨.mov, [.tmp 4], some 5, none⟩])
    (.seq
    (.seq
    (.region [
    ⟨.load (some 6), [.loc 3], none, none⟩,
    ⟨.mov, [.loc 1], none, none⟩,
    ⟨.call 159, [.tmp 0, .tmp 1], none, none⟩,
    ⟨.bin .geq, [.tmp 2, .c (.int .i64 0)], none, none⟩,
    ⟨.mov, [.tmp 3], none, none⟩,
    ⟨.load (some 6), [.loc 3], none, some (4, true)⟩,
    ⟨.mov, [.loc 2], none, some (4, true)⟩,
    ⟨.call 159, [.tmp 5, .tmp 6], none, some (4, true)⟩,
    ⟨.bin .geq, [.tmp 7, .c (.int .i64 0)], none, some (4, true)⟩,
    ⟨.pick, [.tmp 4, .tmp 8, .c (.bool false)], none, none⟩,
    ⟨.mov, [.tmp 9], none, none⟩,
    ⟨.mov, [.loc 1], none, some (10, true)⟩,
    ⟨.mov, [.loc 2], none, some (10, true)⟩,
    ⟨.bin .neq, [.tmp 11, .tmp 12], none, some (10, true)⟩,
    ⟨.pick, [.tmp 10, .tmp 13, .c (.bool false)], some 6, none⟩])
    (.cond (.loc 6)
      (.region [
    ⟨.mov, [.loc 5], none, none⟩,
    ⟨.nilc, [.tmp 0], none, none⟩,
    ⟨.faddr 9, [.tmp 1], none, none⟩,
    ⟨.store 1, [.tmp 2, .c (.int .i64 1)], none, none⟩])
      .skip))
    (.seq
    (.region [
    ⟨.mov, [.loc 5], none, none⟩,
    ⟨.mov, [.tmp 0], some 4, none⟩])
    .ret)))) }
def steal_Steal_Got : AFn := { nloc := 4, npar := 1, res := [.loc 1, .loc 2], body :=
    (.seq
    (.region [
    ⟨.mov, [.c (.int .i64 0)], some 1, none⟩,
    ⟨.mov, [.c (.bool false)], some 2, none⟩])
    (.seq
    (.seq
    (.region [
    ⟨.mov, [.loc 0], none, none⟩,
    ⟨.call 277, [.tmp 0], none, none⟩,
    ⟨.not, [.tmp 1], none, none⟩,
    ⟨.mov, [.tmp 2], none, none⟩,
    ⟨.mov, [.loc 0], none, some (3, false)⟩,
    ⟨.call 275, [.tmp 4], none, some (3, false)⟩,
    ⟨.bin .eql, [.tmp 5, .c (.int .i64 0)], none, some (3, false)⟩,
    ⟨.pick, [.tmp 3, .c (.bool true), .tmp 6], some 3, none⟩])
    (.cond (.loc 3)
      (.seq
      (.region [
    ⟨.mov, [.c (.int .i64 0)], some 1, none⟩,
    ⟨.mov, [.c (.bool false)], some 2, none⟩])
      .ret)
      .skip))
    (.seq
    (.region [
    ⟨.mov, [.loc 0], none, none⟩,
    ⟨.nilc, [.tmp 0], none, none⟩,
    ⟨.faddr 11, [.tmp 1], none, none⟩,
    ⟨.load none, [.tmp 2], none, none⟩,
    ⟨.iaddr 1 none, [.tmp 3, .c (.int .i64 0)], none, none⟩,
    ⟨.load none, [.tmp 4], none, none⟩,
    ⟨.mov, [.tmp 5], some 1, none⟩,
    ⟨.mov, [.c (.bool true)], some 2, none⟩])
    .ret))) }
def steal_Steal_Done : AFn := { nloc := 2, npar := 1, res := [.loc 1], body :=
    (.seq
    (.region [
    ⟨.mov, [.c (.bool false)], some 1, none⟩])
    (.seq
    (.region [
    ⟨.mov, [.loc 0], none, none⟩,
    ⟨.eqv .ptr false, [.tmp 0, .c (.nilp)], none, none⟩,
    ⟨.mov, [.tmp 1], none, none⟩,
    ⟨.mov, [.loc 0], none, some (2, false)⟩,
    ⟨.nilc, [.tmp 3], none, some (2, false)⟩,
    ⟨.faddr 9, [.tmp 4], none, some (2, false)⟩,
    ⟨.load none, [.tmp 5], none, some (2, false)⟩,
    ⟨.bin .eql, [.tmp 6, .c (.int .i64 0)], none, some (2, false)⟩,
    ⟨.pick, [.tmp 2, .c (.bool true), .tmp 7], none, none⟩,
    ⟨.mov, [.tmp 8], some 1, none⟩])
    .ret)) }
def steal_Steal_Step : AFn := { nloc := 10, npar := 2, res := [.loc 2], body :=
    (.seq
    (.region [
    ⟨.mov, [.c (.bool false)], some 2, none⟩])
    (.seq
    (.seq
    (.region [
    ⟨.mov, [.loc 0], none, none⟩,
    ⟨.call 277, [.tmp 0], some 3, none⟩])
    (.cond (.loc 3)
      (.seq
      (.region [
    ⟨.mov, [.c (.bool true)], some 2, none⟩])
      .ret)
      .skip))
    (.seq
    (.seq
    (.region [
    ⟨.mov, [.loc 0], none, none⟩,
    ⟨.nilc, [.tmp 0], none, none⟩,
    ⟨.faddr 9, [.tmp 1], none, none⟩,
    ⟨.load none, [.tmp 2], some 4, none⟩])
    (.block 0
    (.seq
    (.region [
    ⟨.bin .eql, [.loc 4, .c (.int .i64 1)], none, none⟩,
    ⟨.mov, [.tmp 0], some 5, none⟩])
    (.cond (.loc 5)
      (.region [
    ⟨.mov, [.loc 0], none, none⟩,
    ⟨.mov, [.loc 1], none, none⟩,
    ⟨.call 283, [.tmp 0, .tmp 1], none, none⟩])
      (.seq
      (.region [
    ⟨.bin .eql, [.loc 4, .c (.int .i64 2)], none, none⟩,
    ⟨.mov, [.tmp 0], some 6, none⟩])
      (.cond (.loc 6)
        (.region [
    ⟨.mov, [.loc 0], none, none⟩,
    ⟨.mov, [.loc 1], none, none⟩,
    ⟨.call 284, [.tmp 0, .tmp 1], none, none⟩])
        (.seq
        (.region [
    ⟨.bin .eql, [.loc 4, .c (.int .i64 3)], none, none⟩,
    ⟨.mov, [.tmp 0], some 7, none⟩])
        (.cond (.loc 7)
          (.region [
    ⟨.mov, [.loc 0], none, none⟩,
    ⟨.mov, [.loc 1], none, none⟩,
    ⟨.call 285, [.tmp 0, .tmp 1], none, none⟩])
          (.seq
          (.region [
    ⟨.bin .eql, [.loc 4, .c (.int .i64 4)], none, none⟩,
    ⟨.mov, [.tmp 0], some 8, none⟩])
          (.cond (.loc 8)
            (.seq
            (.region [
    ⟨.mov, [.loc 0], none, none⟩,
    ⟨.nilc, [.tmp 0], none, none⟩,
    ⟨.faddr 6, [.tmp 1], none, none⟩,
    ⟨.faddr 0, [.tmp 2], none, none⟩,
    ⟨.load none, [.tmp 3], none, none⟩,
    ⟨.mov, [.loc 1], none, none⟩,
    ⟨.call 195, [.tmp 4, .tmp 5], some 9, none⟩])
            (.cond (.loc 9)
              (.region [
    ⟨.mov, [.loc 0], none, none⟩,
    ⟨.nilc, [.tmp 0], none, none⟩,
    ⟨.faddr 9, [.tmp 1], none, none⟩,
    ⟨.store 1, [.tmp 2, .c (.int .i64 0)], none, none⟩])
              .skip))
            .skip))))))))))
    (.seq
    (.region [
    ⟨.mov, [.loc 0], none, none⟩,
    ⟨.nilc, [.tmp 0], none, none⟩,
    ⟨.faddr 9, [.tmp 1], none, none⟩,
    ⟨.load none, [.tmp 2], none, none⟩,
    ⟨.bin .eql, [.tmp 3, .c (.int .i64 0)], none, none⟩,
    ⟨.mov, [.tmp 4], some 2, none⟩])
    .ret)))) }
def steal_Steal_Many : AFn := { nloc := 3, npar := 1, res := [.loc 1], body :=
    (.seq
    (.region [
    ⟨.mov, [.c (.int .i64 0)], some 1, none⟩])
    (.seq
    (.seq
    (.region [
    ⟨.mov, [.loc 0], none, none⟩,
    ⟨.eqv .ptr false, [.tmp 0, .c (.nilp)], some 2, none⟩])
    (.cond (.loc 2)
      (.seq
      (.region [
    ⟨.mov, [.c (.int .i64 0)], some 1, none⟩])
      .ret)
      .skip))
    (.seq
    (.region [
    ⟨.mov, [.loc 0], none, none⟩,
    ⟨.nilc, [.tmp 0], none, none⟩,
    ⟨.faddr 12, [.tmp 1], none, none⟩,
    ⟨.load none, [.tmp 2], none, none⟩,
    ⟨.mov, [.tmp 3], some 1, none⟩])
    .ret))) }
def steal_Steal_Left : AFn := { nloc := 3, npar := 1, res := [.loc 1], body :=
    (.seq
    (.region [
    ⟨.mov, [.c (.nils)], some 1, none⟩])
    (.seq
    (.seq
    (.region [
    ⟨.mov, [.loc 0], none, none⟩,
    ⟨.call 277, [.tmp 0], none, none⟩,
    ⟨.not, [.tmp 1], none, none⟩,
    ⟨.mov, [.tmp 2], none, none⟩,
    ⟨.mov, [.loc 0], none, some (3, false)⟩,
    ⟨.call 275, [.tmp 4], none, some (3, false)⟩,
    ⟨.bin .eql, [.tmp 5, .c (.int .i64 0)], none, some (3, false)⟩,
    ⟨.pick, [.tmp 3, .c (.bool true), .tmp 6], some 2, none⟩])
    (.cond (.loc 2)
      (.seq
      (.region [
    ⟨.mov, [.c (.nils)], some 1, none⟩])
      .ret)
      .skip))
    (.seq
    (.region [
    ⟨.mov, [.loc 0], none, none⟩,
    ⟨.nilc, [.tmp 0], none, none⟩,
    ⟨.faddr 6, [.tmp 1], none, none⟩,
    ⟨.load (some 1), [.tmp 2], none, none⟩,
    ⟨.call 286, [.tmp 3], none, none⟩,
    ⟨.mov, [.tmp 4], some 1, none⟩])
    .ret))) }
def steal_Steal_Hands : AFn := { nloc := 3, npar := 1, res := [.loc 1], body :=
    (.seq
    (.region [
    ⟨.mov, [.c (.nils)], some 1, none⟩])
    (.seq
    (.seq
    (.region [
    ⟨.mov, [.loc 0], none, none⟩,
    ⟨.call 275, [.tmp 0], none, none⟩,
    ⟨.bin .eql, [.tmp 1, .c (.int .i64 0)], some 2, none⟩])
    (.cond (.loc 2)
      (.seq
      (.region [
    ⟨.mov, [.c (.nils)], some 1, none⟩])
      .ret)
      .skip))
    (.seq
    (.draw [0, 1, 2, 3, 4, 5, 6, 7, 8, 9, 10, 11, 12] 0 [
    ⟨.mov, [.loc 0], none, none⟩,
    ⟨.nilc, [.tmp 0], none, none⟩,
    ⟨.faddr 11, [.tmp 1], none, none⟩,
    ⟨.load none, [.tmp 2], none, none⟩,
    ⟨.slice 1 false true false, [.tmp 3, .c (.int .i64 1)], none, none⟩,
    ⟨.mov, [.loc 0], none, none⟩,
    ⟨.nilc, [.tmp 5], none, none⟩,
    ⟨.faddr 6, [.tmp 6], none, none⟩,
    ⟨.load (some 1), [.tmp 7], none, none⟩,
    ⟨.call 286, [.tmp 8], none, none⟩,
    ⟨.lit 2 1 [.nils] [(0, 1), (1, 1)], [.tmp 4, .tmp 9], none, none⟩,
    ⟨.call 287, [.tmp 10], none, none⟩,
    ⟨.mov, [.tmp 11], some 1, none⟩] [(3, [10]), (4, [10])])
    .ret))) }
def law11_works : AFn := { nloc := 14, npar := 0, res := [.loc 0], body :=
    (.seq
    (.region [
    ⟨.mov, [.c (.bool false)], some 0, none⟩])
    (.seq
    (.region [
    ⟨.call 281, [], none, none⟩,
    ⟨.mov, [.tmp 0], none, none⟩,
    ⟨.extract 0, [.tmp 1], none, none⟩,
    ⟨.extract 1, [.tmp 1], none, none⟩,
    ⟨.alloc [.int .i64 0, .int .i64 0, .int .i64 0, .int .i64 0, .int .i64 0, .int .i64 0], [], some 1, none⟩,
    ⟨.store 6, [.tmp 4, .tmp 2], none, none⟩,
    ⟨.mov, [.tmp 3], some 2, none⟩])
    (.seq
    (.region [
    ⟨.load (some 6), [.loc 1], none, none⟩,
    ⟨.call 270, [.tmp 0, .c (.int .i64 0), .c (.int .i64 1)], none, none⟩,
    ⟨.mov, [.tmp 1], some 3, none⟩])
    (.seq
    (.region [
    ⟨.mov, [.c (.int .i64 1)], some 4, none⟩])
    (.seq
    (.block 0
    (.loop
    (.seq
    (.seq
    (.region [
    ⟨.mov, [.loc 3], none, none⟩,
    ⟨.mov, [.loc 2], none, none⟩,
    ⟨.call 274, [.tmp 0, .tmp 1], none, none⟩,
    ⟨.not, [.tmp 2], none, none⟩,
    ⟨.mov, [.tmp 3], none, none⟩,
    ⟨.mov, [.loc 4], none, some (4, true)⟩,
    ⟨.bin .lss, [.tmp 5, .c (.int .i64 20)], none, some (4, true)⟩,
    ⟨.pick, [.tmp 4, .tmp 6, .c (.bool false)], some 11, none⟩])
    (.cond (.loc 11)
      .skip
      (.exit 0)))
    (.block 1
    (.region [
    ⟨.mov, [.loc 4], none, none⟩,
    ⟨.bin .add, [.tmp 0, .c (.int .i64 1)], none, none⟩,
    ⟨.mov, [.tmp 1], some 4, none⟩])))))
    (.seq
    (.region [
    ⟨.mov, [.loc 3], none, none⟩,
    ⟨.call 278, [.tmp 0], none, none⟩,
    ⟨.mov, [.tmp 1], none, none⟩,
    ⟨.extract 0, [.tmp 2], none, none⟩,
    ⟨.extract 1, [.tmp 2], none, none⟩,
    ⟨.mov, [.tmp 3], some 5, none⟩,
    ⟨.mov, [.tmp 4], some 6, none⟩])
    (.seq
    (.seq
    (.region [
    ⟨.mov, [.loc 4], none, none⟩,
    ⟨.bin .neq, [.tmp 0, .c (.int .i64 7)], none, none⟩,
    ⟨.mov, [.tmp 1], none, none⟩,
    ⟨.mov, [.loc 5], none, some (2, false)⟩,
    ⟨.bin .neq, [.tmp 3, .c (.int .i64 5)], none, some (2, false)⟩,
    ⟨.pick, [.tmp 2, .c (.bool true), .tmp 4], none, none⟩,
    ⟨.mov, [.tmp 5], none, none⟩,
    ⟨.mov, [.loc 6], none, some (6, false)⟩,
    ⟨.not, [.tmp 7], none, some (6, false)⟩,
    ⟨.pick, [.tmp 6, .c (.bool true), .tmp 8], none, none⟩,
    ⟨.mov, [.tmp 9], none, none⟩,
    ⟨.mov, [.loc 3], none, some (10, false)⟩,
    ⟨.call 275, [.tmp 11], none, some (10, false)⟩,
    ⟨.bin .neq, [.tmp 12, .c (.int .i64 2)], none, some (10, false)⟩,
    ⟨.pick, [.tmp 10, .c (.bool true), .tmp 13], none, none⟩,
    ⟨.mov, [.tmp 14], none, none⟩,
    ⟨.load (some 6), [.loc 1], none, some (15, false)⟩,
    ⟨.mov, [.loc 2], none, some (15, false)⟩,
    ⟨.call 136, [.tmp 16, .tmp 17, .c (.int .i64 0)], none, some (15, false)⟩,
    ⟨.lit 1 1 [.int .i64 0] [(0, 1)], [.c (.int .i64 6)], none, some (15, false)⟩,
    ⟨.call 84, [.tmp 18, .tmp 19], none, some (15, false)⟩,
    ⟨.not, [.tmp 20], none, some (15, false)⟩,
    ⟨.pick, [.tmp 15, .c (.bool true), .tmp 21], none, none⟩,
    ⟨.mov, [.tmp 22], none, none⟩,
    ⟨.load (some 6), [.loc 1], none, some (23, false)⟩,
    ⟨.mov, [.loc 2], none, some (23, false)⟩,
    ⟨.call 136, [.tmp 24, .tmp 25, .c (.int .i64 1)], none, some (23, false)⟩,
    ⟨.lit 1 1 [.int .i64 0] [(0, 1)], [.c (.int .i64 7)], none, some (23, false)⟩,
    ⟨.call 84, [.tmp 26, .tmp 27], none, some (23, false)⟩,
    ⟨.not, [.tmp 28], none, some (23, false)⟩,
    ⟨.pick, [.tmp 23, .c (.bool true), .tmp 29], some 12, none⟩])
    (.cond (.loc 12)
      (.seq
      (.region [
    ⟨.mov, [.c (.bool false)], some 0, none⟩])
      .ret)
      .skip))
    (.seq
    (.region [
    ⟨.call 281, [], none, none⟩,
    ⟨.mov, [.tmp 0], none, none⟩,
    ⟨.extract 0, [.tmp 1], none, none⟩,
    ⟨.extract 1, [.tmp 1], none, none⟩,
    ⟨.alloc [.int .i64 0, .int .i64 0, .int .i64 0, .int .i64 0, .int .i64 0, .int .i64 0], [], none, none⟩,
    ⟨.store 6, [.tmp 4, .tmp 2], none, none⟩,
    ⟨.mov, [.tmp 3], some 7, none⟩])
    (.seq
    (.region [
    ⟨.load (some 6), [.loc 1], none, none⟩,
    ⟨.call 270, [.tmp 0, .c (.int .i64 0), .c (.int .i64 1)], none, none⟩,
    ⟨.mov, [.tmp 1], some 8, none⟩])
    (.seq
    (.region [
    ⟨.mov, [.loc 8], none, none⟩,
    ⟨.mov, [.loc 7], none, none⟩,
    ⟨.call 274, [.tmp 0, .tmp 1], none, none⟩])
    (.seq
    (.region [
    ⟨.load (some 6), [.loc 1], none, none⟩,
    ⟨.mov, [.loc 7], none, none⟩,
    ⟨.call 139, [.tmp 0, .tmp 1, .c (.int .i64 1), .c (.int .i64 1)], none, none⟩])
    (.seq
    (.region [
    ⟨.mov, [.c (.int .i64 2)], some 4, none⟩])
    (.seq
    (.block 2
    (.loop
    (.seq
    (.seq
    (.region [
    ⟨.mov, [.loc 8], none, none⟩,
    ⟨.mov, [.loc 7], none, none⟩,
    ⟨.call 274, [.tmp 0, .tmp 1], none, none⟩,
    ⟨.not, [.tmp 2], none, none⟩,
    ⟨.mov, [.tmp 3], none, none⟩,
    ⟨.mov, [.loc 4], none, some (4, true)⟩,
    ⟨.bin .lss, [.tmp 5, .c (.int .i64 20)], none, some (4, true)⟩,
    ⟨.pick, [.tmp 4, .tmp 6, .c (.bool false)], some 13, none⟩])
    (.cond (.loc 13)
      .skip
      (.exit 2)))
    (.block 3
    (.region [
    ⟨.mov, [.loc 4], none, none⟩,
    ⟨.bin .add, [.tmp 0, .c (.int .i64 1)], none, none⟩,
    ⟨.mov, [.tmp 1], some 4, none⟩])))))
    (.seq
    (.region [
    ⟨.mov, [.loc 8], none, none⟩,
    ⟨.call 278, [.tmp 0], none, none⟩,
    ⟨.mov, [.tmp 1], none, none⟩,
    ⟨.extract 0, [.tmp 2], none, none⟩,
    ⟨.extract 1, [.tmp 2], none, none⟩,
    ⟨.mov, [.tmp 3], some 9, none⟩,
    ⟨.mov, [.tmp 4], some 10, none⟩])
    (.seq
    (.region [
    ⟨.mov, [.loc 4], none, none⟩,
    ⟨.bin .eql, [.tmp 0, .c (.int .i64 7)], none, none⟩,
    ⟨.mov, [.tmp 1], none, none⟩,
    ⟨.mov, [.loc 9], none, some (2, true)⟩,
    ⟨.bin .eql, [.tmp 3, .c (.int .i64 6)], none, some (2, true)⟩,
    ⟨.pick, [.tmp 2, .tmp 4, .c (.bool false)], none, none⟩,
    ⟨.mov, [.tmp 5], none, none⟩,
    ⟨.mov, [.loc 10], none, some (6, true)⟩,
    ⟨.pick, [.tmp 6, .tmp 7, .c (.bool false)], none, none⟩,
    ⟨.mov, [.tmp 8], none, none⟩,
    ⟨.mov, [.loc 8], none, some (9, true)⟩,
    ⟨.call 275, [.tmp 10], none, some (9, true)⟩,
    ⟨.bin .eql, [.tmp 11, .c (.int .i64 1)], none, some (9, true)⟩,
    ⟨.pick, [.tmp 9, .tmp 12, .c (.bool false)], none, none⟩,
    ⟨.mov, [.tmp 13], none, none⟩,
    ⟨.load (some 6), [.loc 1], none, some (14, true)⟩,
    ⟨.mov, [.loc 7], none, some (14, true)⟩,
    ⟨.call 136, [.tmp 15, .tmp 16, .c (.int .i64 1)], none, some (14, true)⟩,
    ⟨.lit 1 1 [.int .i64 0] [(0, 1)], [.c (.int .i64 7)], none, some (14, true)⟩,
    ⟨.call 84, [.tmp 17, .tmp 18], none, some (14, true)⟩,
    ⟨.pick, [.tmp 14, .tmp 19, .c (.bool false)], none, none⟩,
    ⟨.mov, [.tmp 20], some 0, none⟩])
    .ret))))))))))))))) }
def docs_Mem : AFn := F09.docs_Mem
def docs_Filled : AFn := F09.docs_Filled
def kit_Pick : AFn := F09.kit_Pick
def cell_Mem_Store : AFn := F09.cell_Mem_Store
def ref06_Store : AFn := F09.ref06_Store
def docs_Made : AFn := F09.docs_Made
def conf_Config_Word : AFn := F09.conf_Config_Word
def docs_Ring : AFn := F09.docs_Ring
def put_New : AFn := F09.put_New
def kit_SameInts : AFn := F09.kit_SameInts
def put_Put_Step : AFn := F09.put_Put_Step
def put_Put_Over : AFn := F09.put_Put_Over
def docs_Thief : AFn := F09.docs_Thief
def law11_same : AFn := { nloc := 13, npar := 2, res := [.loc 2], body :=
    (.seq
    (.region [
    ⟨.mov, [.c (.bool false)], some 2, none⟩])
    (.seq
    (.seq
    (.region [
    ⟨.mov, [.loc 0], none, none⟩,
    ⟨.len, [.tmp 0], none, none⟩,
    ⟨.mov, [.loc 1], none, none⟩,
    ⟨.len, [.tmp 2], none, none⟩,
    ⟨.bin .neq, [.tmp 1, .tmp 3], some 7, none⟩])
    (.cond (.loc 7)
      (.seq
      (.region [
    ⟨.mov, [.c (.bool false)], some 2, none⟩])
      .ret)
      .skip))
    (.seq
    (.seq
    (.region [
    ⟨.mov, [.c (.int .i64 0)], some 3, none⟩])
    (.block 0
    (.loop
    (.seq
    (.seq
    (.region [
    ⟨.mov, [.loc 3], none, none⟩,
    ⟨.mov, [.loc 0], none, none⟩,
    ⟨.len, [.tmp 1], none, none⟩,
    ⟨.bin .lss, [.tmp 0, .tmp 2], some 8, none⟩])
    (.cond (.loc 8)
      .skip
      (.exit 0)))
    (.seq
    (.block 1
    (.seq
    (.region [
    ⟨.mov, [.c (.int .i64 0)], some 4, none⟩,
    ⟨.mov, [.c (.int .i64 0)], some 5, none⟩])
    (.seq
    (.seq
    (.region [
    ⟨.mov, [.c (.int .i64 0)], some 6, none⟩])
    (.block 2
    (.loop
    (.seq
    (.seq
    (.region [
    ⟨.mov, [.loc 6], none, none⟩,
    ⟨.mov, [.loc 1], none, none⟩,
    ⟨.len, [.tmp 1], none, none⟩,
    ⟨.bin .lss, [.tmp 0, .tmp 2], some 9, none⟩])
    (.cond (.loc 9)
      .skip
      (.exit 2)))
    (.seq
    (.block 3
    (.seq
    (.seq
    (.region [
    ⟨.mov, [.loc 0], none, none⟩,
    ⟨.mov, [.loc 6], none, none⟩,
    ⟨.iaddr 1 none, [.tmp 0, .tmp 1], none, none⟩,
    ⟨.load none, [.tmp 2], none, none⟩,
    ⟨.mov, [.loc 0], none, none⟩,
    ⟨.mov, [.loc 3], none, none⟩,
    ⟨.iaddr 1 none, [.tmp 4, .tmp 5], none, none⟩,
    ⟨.load none, [.tmp 6], none, none⟩,
    ⟨.bin .eql, [.tmp 3, .tmp 7], some 10, none⟩])
    (.cond (.loc 10)
      (.region [
    ⟨.mov, [.loc 4], none, none⟩,
    ⟨.bin .add, [.tmp 0, .c (.int .i64 1)], none, none⟩,
    ⟨.mov, [.tmp 1], some 4, none⟩])
      .skip))
    (.seq
    (.region [
    ⟨.mov, [.loc 1], none, none⟩,
    ⟨.mov, [.loc 6], none, none⟩,
    ⟨.iaddr 1 none, [.tmp 0, .tmp 1], none, none⟩,
    ⟨.load none, [.tmp 2], none, none⟩,
    ⟨.mov, [.loc 0], none, none⟩,
    ⟨.mov, [.loc 3], none, none⟩,
    ⟨.iaddr 1 none, [.tmp 4, .tmp 5], none, none⟩,
    ⟨.load none, [.tmp 6], none, none⟩,
    ⟨.bin .eql, [.tmp 3, .tmp 7], some 11, none⟩])
    (.cond (.loc 11)
      (.region [
    ⟨.mov, [.loc 5], none, none⟩,
    ⟨.bin .add, [.tmp 0, .c (.int .i64 1)], none, none⟩,
    ⟨.mov, [.tmp 1], some 5, none⟩])
      .skip))))
    (.region [
    ⟨.mov, [.loc 6], none, none⟩,
    ⟨.bin .add, [.tmp 0, .c (.int .i64 1)], none, none⟩,
    ⟨.mov, [.tmp 1], some 6, none⟩]))))))
    (.seq
    (.region [
    ⟨.mov, [.loc 4], none, none⟩,
    ⟨.mov, [.loc 5], none, none⟩,
    ⟨.bin .neq, [.tmp 0, .tmp 1], some 12, none⟩])
    (.cond (.loc 12)
      (.seq
      (.region [
    ⟨.mov, [.c (.bool false)], some 2, none⟩])
      .ret)
      .skip)))))
    (.region [
    ⟨.mov, [.loc 3], none, none⟩,
    ⟨.bin .add, [.tmp 0, .c (.int .i64 1)], none, none⟩,
    ⟨.mov, [.tmp 1], some 3, none⟩]))))))
    (.seq
    (.region [
    ⟨.mov, [.c (.bool true)], some 2, none⟩])
    .ret)))) }
def steal_Steal_look : AFn := { nloc := 4, npar := 2, res := [], body :=
    (.seq
    (.region [
    ⟨.mov, [.loc 0], none, none⟩,
    ⟨.mov, [.loc 1], none, none⟩,
    ⟨.mov, [.loc 0], none, none⟩,
    ⟨.nilc, [.tmp 2], none, none⟩,
    ⟨.faddr 0, [.tmp 3], none, none⟩,
    ⟨.load (some 6), [.tmp 4], none, none⟩,
    ⟨.mov, [.loc 0], none, none⟩,
    ⟨.nilc, [.tmp 6], none, none⟩,
    ⟨.faddr 8, [.tmp 7], none, none⟩,
    ⟨.load none, [.tmp 8], none, none⟩,
    ⟨.call 159, [.tmp 5, .tmp 9], none, none⟩,
    ⟨.call 24, [.tmp 1, .tmp 10], none, none⟩,
    ⟨.nilc, [.tmp 0], none, none⟩,
    ⟨.faddr 10, [.tmp 12], none, none⟩,
    ⟨.store 1, [.tmp 13, .tmp 11], none, none⟩])
    (.seq
    (.region [
    ⟨.mov, [.loc 0], none, none⟩,
    ⟨.mov, [.loc 0], none, none⟩,
    ⟨.nilc, [.tmp 1], none, none⟩,
    ⟨.faddr 0, [.tmp 2], none, none⟩,
    ⟨.faddr 1, [.tmp 3], none, none⟩,
    ⟨.load none, [.tmp 4], none, none⟩,
    ⟨.make 1 8 [.int .i64 0], [.c (.int .i64 0), .tmp 5], none, none⟩,
    ⟨.nilc, [.tmp 0], none, none⟩,
    ⟨.faddr 11, [.tmp 7], none, none⟩,
    ⟨.store 1, [.tmp 8, .tmp 6], none, none⟩])
    (.seq
    (.region [
    ⟨.mov, [.loc 0], none, none⟩,
    ⟨.nilc, [.tmp 0], none, none⟩,
    ⟨.faddr 9, [.tmp 1], none, none⟩,
    ⟨.store 1, [.tmp 2, .c (.int .i64 2)], none, none⟩])
    (.seq
    (.region [
    ⟨.mov, [.loc 0], none, none⟩,
    ⟨.nilc, [.tmp 0], none, none⟩,
    ⟨.faddr 10, [.tmp 1], none, none⟩,
    ⟨.load none, [.tmp 2], none, none⟩,
    ⟨.call 178, [.tmp 3], none, none⟩,
    ⟨.mov, [.tmp 4], some 2, none⟩])
    (.seq
    (.region [
    ⟨.mov, [.loc 2], none, none⟩,
    ⟨.bin .eql, [.tmp 0, .c (.int .u32 0)], none, none⟩,
    ⟨.mov, [.tmp 1], none, none⟩,
    ⟨.mov, [.loc 2], none, some (2, false)⟩,
    ⟨.mov, [.loc 0], none, some (2, false)⟩,
    ⟨.nilc, [.tmp 4], none, some (2, false)⟩,
    ⟨.faddr 0, [.tmp 5], none, some (2, false)⟩,
    ⟨.faddr 1, [.tmp 6], none, some (2, false)⟩,
    ⟨.load none, [.tmp 7], none, some (2, false)⟩,
    ⟨.conv .u32, [.tmp 8], none, some (2, false)⟩,
    ⟨.bin .gtr, [.tmp 3, .tmp 9], none, some (2, false)⟩,
    ⟨.pick, [.tmp 2, .c (.bool true), .tmp 10], some 3, none⟩])
    (.cond (.loc 3)
      (.region [
    ⟨.mov, [.loc 0], none, none⟩,
    ⟨.nilc, [.tmp 0], none, none⟩,
    ⟨.faddr 9, [.tmp 1], none, none⟩,
    ⟨.store 1, [.tmp 2, .c (.int .i64 0)], none, none⟩])
      .skip)))))) }
def steal_Steal_copy : AFn := { nloc := 3, npar := 2, res := [], body :=
    (.seq
    (.draw [0, 1, 2, 3, 4, 5, 6, 7, 8, 9, 10, 11, 12, 13, 14, 15, 16, 17, 18, 19, 20, 21, 22, 23, 24, 25, 26, 27, 28, 29, 30, 31, 32, 33] 0 [
    ⟨.mov, [.loc 0], none, none⟩,
    ⟨.mov, [.loc 0], none, none⟩,
    ⟨.nilc, [.tmp 1], none, none⟩,
    ⟨.faddr 11, [.tmp 2], none, none⟩,
    ⟨.load none, [.tmp 3], none, none⟩,
    ⟨.mov, [.loc 1], none, none⟩,
    ⟨.mov, [.loc 0], none, none⟩,
    ⟨.nilc, [.tmp 6], none, none⟩,
    ⟨.faddr 0, [.tmp 7], none, none⟩,
    ⟨.load (some 6), [.tmp 8], none, none⟩,
    ⟨.mov, [.loc 0], none, none⟩,
    ⟨.nilc, [.tmp 10], none, none⟩,
    ⟨.faddr 8, [.tmp 11], none, none⟩,
    ⟨.load none, [.tmp 12], none, none⟩,
    ⟨.mov, [.loc 0], none, none⟩,
    ⟨.nilc, [.tmp 14], none, none⟩,
    ⟨.faddr 10, [.tmp 15], none, none⟩,
    ⟨.load none, [.tmp 16], none, none⟩,
    ⟨.call 179, [.tmp 17], none, none⟩,
    ⟨.mov, [.loc 0], none, none⟩,
    ⟨.nilc, [.tmp 19], none, none⟩,
    ⟨.faddr 11, [.tmp 20], none, none⟩,
    ⟨.load none, [.tmp 21], none, none⟩,
    ⟨.len, [.tmp 22], none, none⟩,
    ⟨.conv .u32, [.tmp 23], none, none⟩,
    ⟨.bin .add, [.tmp 18, .tmp 24], none, none⟩,
    ⟨.call 160, [.tmp 9, .tmp 13, .tmp 25], none, none⟩,
    ⟨.call 24, [.tmp 5, .tmp 26], none, none⟩,
    ⟨.conv .i64, [.tmp 27], none, none⟩,
    ⟨.lit 1 1 [.int .i64 0] [(0, 1)], [.tmp 28], none, none⟩,
    ⟨.append 1 8, [.tmp 4, .tmp 29], none, none⟩,
    ⟨.nilc, [.tmp 0], none, none⟩,
    ⟨.faddr 11, [.tmp 31], none, none⟩,
    ⟨.store 1, [.tmp 32, .tmp 30], none, none⟩] [(4, [19, 27, 28, 30]), (9, [19]), (13, [19]), (22, [0])])
    (.seq
    (.draw [0, 1, 2, 3, 4, 5, 6, 7] 0 [
    ⟨.mov, [.loc 0], none, none⟩,
    ⟨.nilc, [.tmp 0], none, none⟩,
    ⟨.faddr 11, [.tmp 1], none, none⟩,
    ⟨.load none, [.tmp 2], none, none⟩,
    ⟨.len, [.tmp 3], none, none⟩,
    ⟨.mov, [.loc 0], none, none⟩,
    ⟨.call 288, [.tmp 5], none, none⟩,
    ⟨.bin .eql, [.tmp 4, .tmp 6], some 2, none⟩] [(3, [7])])
    (.cond (.loc 2)
      (.region [
    ⟨.mov, [.loc 0], none, none⟩,
    ⟨.nilc, [.tmp 0], none, none⟩,
    ⟨.faddr 9, [.tmp 1], none, none⟩,
    ⟨.store 1, [.tmp 2, .c (.int .i64 3)], none, none⟩])
      .skip))) }
def steal_Steal_gain : AFn := { nloc := 4, npar := 2, res := [], body :=
    (.scopeg 0
    (.seq
    .skip
    (.region [
    ⟨.mov, [.loc 0], none, none⟩,
    ⟨.mov, [.loc 0], none, none⟩,
    ⟨.nilc, [.tmp 0], none, none⟩,
    ⟨.faddr 9, [.tmp 2], none, none⟩,
    ⟨.store 1, [.tmp 3, .c (.int .i64 1)], none, none⟩,
    ⟨.nilc, [.tmp 1], none, none⟩,
    ⟨.faddr 11, [.tmp 5], none, none⟩,
    ⟨.store 1, [.tmp 6, .c (.nils)], none, none⟩]))
    (.seq
    (.seq
    (.draw [0, 1, 2, 3, 4, 5, 6, 7, 8, 9, 10, 11, 12, 13, 14, 15, 16, 17, 18, 19, 20, 21, 22, 23] 0 [
    ⟨.mov, [.loc 1], none, none⟩,
    ⟨.mov, [.loc 0], none, none⟩,
    ⟨.nilc, [.tmp 1], none, none⟩,
    ⟨.faddr 0, [.tmp 2], none, none⟩,
    ⟨.load (some 6), [.tmp 3], none, none⟩,
    ⟨.mov, [.loc 0], none, none⟩,
    ⟨.nilc, [.tmp 5], none, none⟩,
    ⟨.faddr 8, [.tmp 6], none, none⟩,
    ⟨.load none, [.tmp 7], none, none⟩,
    ⟨.call 159, [.tmp 4, .tmp 8], none, none⟩,
    ⟨.mov, [.loc 0], none, none⟩,
    ⟨.nilc, [.tmp 10], none, none⟩,
    ⟨.faddr 10, [.tmp 11], none, none⟩,
    ⟨.load none, [.tmp 12], none, none⟩,
    ⟨.mov, [.loc 0], none, none⟩,
    ⟨.nilc, [.tmp 14], none, none⟩,
    ⟨.faddr 10, [.tmp 15], none, none⟩,
    ⟨.load none, [.tmp 16], none, none⟩,
    ⟨.mov, [.loc 0], none, none⟩,
    ⟨.call 288, [.tmp 18], none, none⟩,
    ⟨.conv .u32, [.tmp 19], none, none⟩,
    ⟨.call 180, [.tmp 17, .tmp 20], none, none⟩,
    ⟨.call 23, [.tmp 0, .tmp 9, .tmp 13, .tmp 21], none, none⟩,
    ⟨.not, [.tmp 22], some 2, none⟩] [(13, [0, 20, 22]), (17, [0, 20])])
    (.cond (.loc 2)
      (.goto 0)
      .skip))
    (.seq
    (.region [
    ⟨.mov, [.loc 0], none, none⟩,
    ⟨.mov, [.loc 0], none, none⟩,
    ⟨.nilc, [.tmp 1], none, none⟩,
    ⟨.faddr 11, [.tmp 2], none, none⟩,
    ⟨.load none, [.tmp 3], none, none⟩,
    ⟨.len, [.tmp 4], none, none⟩,
    ⟨.nilc, [.tmp 0], none, none⟩,
    ⟨.faddr 12, [.tmp 6], none, none⟩,
    ⟨.store 1, [.tmp 7, .tmp 5], none, none⟩])
    (.seq
    (.region [
    ⟨.mov, [.loc 0], none, none⟩,
    ⟨.mov, [.loc 0], none, none⟩,
    ⟨.nilc, [.tmp 1], none, none⟩,
    ⟨.faddr 11, [.tmp 2], none, none⟩,
    ⟨.load none, [.tmp 3], none, none⟩,
    ⟨.mov, [.loc 0], none, none⟩,
    ⟨.nilc, [.tmp 5], none, none⟩,
    ⟨.faddr 12, [.tmp 6], none, none⟩,
    ⟨.load none, [.tmp 7], none, none⟩,
    ⟨.mov, [.loc 0], none, none⟩,
    ⟨.nilc, [.tmp 9], none, none⟩,
    ⟨.faddr 12, [.tmp 10], none, none⟩,
    ⟨.load none, [.tmp 11], none, none⟩,
    ⟨.slice 1 false true true, [.tmp 4, .tmp 8, .tmp 12], none, none⟩,
    ⟨.nilc, [.tmp 0], none, none⟩,
    ⟨.faddr 11, [.tmp 14], none, none⟩,
    ⟨.store 1, [.tmp 15, .tmp 13], none, none⟩])
    (.seq
    (.region [
    ⟨.mov, [.loc 0], none, none⟩,
    ⟨.mov, [.loc 0], none, none⟩,
    ⟨.nilc, [.tmp 1], none, none⟩,
    ⟨.faddr 0, [.tmp 2], none, none⟩,
    ⟨.load (some 6), [.tmp 3], none, none⟩,
    ⟨.mov, [.loc 0], none, none⟩,
    ⟨.nilc, [.tmp 5], none, none⟩,
    ⟨.faddr 7, [.tmp 6], none, none⟩,
    ⟨.load none, [.tmp 7], none, none⟩,
    ⟨.mov, [.loc 0], none, none⟩,
    ⟨.nilc, [.tmp 9], none, none⟩,
    ⟨.faddr 11, [.tmp 10], none, none⟩,
    ⟨.load none, [.tmp 11], none, none⟩,
    ⟨.slice 1 true false false, [.tmp 12, .c (.int .i64 1)], none, none⟩,
    ⟨.call 199, [.tmp 4, .tmp 8, .tmp 13], none, none⟩,
    ⟨.nilc, [.tmp 0], none, none⟩,
    ⟨.faddr 6, [.tmp 15], none, none⟩,
    ⟨.faddr 0, [.tmp 16], none, none⟩,
    ⟨.store 1, [.tmp 17, .tmp 14], none, none⟩])
    (.seq
    (.region [
    ⟨.mov, [.loc 0], none, none⟩,
    ⟨.nilc, [.tmp 0], none, none⟩,
    ⟨.faddr 9, [.tmp 1], none, none⟩,
    ⟨.store 1, [.tmp 2, .c (.int .i64 4)], none, none⟩])
    (.seq
    (.seq
    (.region [
    ⟨.mov, [.loc 0], none, none⟩,
    ⟨.nilc, [.tmp 0], none, none⟩,
    ⟨.faddr 12, [.tmp 1], none, none⟩,
    ⟨.load none, [.tmp 2], none, none⟩,
    ⟨.bin .eql, [.tmp 3, .c (.int .i64 1)], some 3, none⟩])
    (.cond (.loc 3)
      (.region [
    ⟨.mov, [.loc 0], none, none⟩,
    ⟨.nilc, [.tmp 0], none, none⟩,
    ⟨.faddr 9, [.tmp 1], none, none⟩,
    ⟨.store 1, [.tmp 2, .c (.int .i64 0)], none, none⟩])
      .skip))
    (.seq
    .ret
    (.seq
    .skip
    (.region [
    ⟨.mov, [.loc 0], none, none⟩,
    ⟨.mov, [.loc 0], none, none⟩,
    ⟨.nilc, [.tmp 0], none, none⟩,
    ⟨.faddr 9, [.tmp 2], none, none⟩,
    ⟨.store 1, [.tmp 3, .c (.int .i64 1)], none, none⟩,
    ⟨.nilc, [.tmp 1], none, none⟩,
    ⟨.faddr 11, [.tmp 5], none, none⟩,
    ⟨.store 1, [.tmp 6, .c (.nils)], none, none⟩])))))))))) }
def put_Lay_Step : AFn := F09.put_Lay_Step
def steal_rest_Rest : AFn := { nloc := 3, npar := 1, res := [.loc 2], body :=
    (.seq
    (.region [
    ⟨.box, [.loc 0], some 1, none⟩,
    ⟨.mov, [.c (.nils)], some 2, none⟩])
    (.seq
    (.region [
    ⟨.faddr 0, [.loc 1], none, none⟩,
    ⟨.load none, [.tmp 0], none, none⟩,
    ⟨.call 197, [.tmp 1], none, none⟩,
    ⟨.mov, [.tmp 2], some 2, none⟩])
    .ret)) }
def slices_Concat_int : AFn := { nloc := 15, npar := 1, res := [.loc 1], body :=
    (.seq
    (.region [
    ⟨.mov, [.c (.nils)], some 1, none⟩])
    (.seq
    (.region [
    ⟨.mov, [.c (.int .i64 0)], some 2, none⟩])
    (.seq
    (.seq
    (.region [
    ⟨.mov, [.loc 0], some 6, none⟩,
    ⟨.len, [.tmp 0], some 7, none⟩,
    ⟨.mov, [.c (.int .i64 0)], some 8, none⟩])
    (.block 0
    (.loop
    (.seq
    (.region [
    ⟨.bin .lss, [.loc 8, .loc 7], some 9, none⟩])
    (.seq
    (.cond (.loc 9)
      .skip
      (.exit 0))
    (.seq
    (.block 1
    (.seq
    (.region [
    ⟨.iaddr 1 none, [.loc 6, .loc 8], none, none⟩,
    ⟨.load none, [.tmp 0], none, none⟩,
    ⟨.mov, [.tmp 1], some 3, none⟩])
    (.seq
    (.region [
    ⟨.mov, [.loc 2], none, none⟩,
    ⟨.mov, [.loc 3], none, none⟩,
    ⟨.len, [.tmp 1], none, none⟩,
    ⟨.bin .add, [.tmp 0, .tmp 2], none, none⟩,
    ⟨.mov, [.tmp 3], some 2, none⟩])
    (.seq
    (.region [
    ⟨.mov, [.loc 2], none, none⟩,
    ⟨.bin .lss, [.tmp 0, .c (.int .i64 0)], some 10, none⟩])
    (.cond (.loc 10)
      (.region [
    ⟨.trap, [], none, none⟩,
    ⟨.trap, [], none, none⟩])
      .skip)))))
    (.region [
    ⟨.bin .add, [.loc 8, .c (.int .i64 1)], none, none⟩,
    ⟨.mov, [.tmp 0], some 8, none⟩])))))))
    (.seq
    (.region [
    ⟨.mov, [.loc 2], none, none⟩,
    ⟨.call 290, [.c (.nils), .tmp 0], none, none⟩,
    ⟨.mov, [.tmp 1], some 4, none⟩])
    (.seq
    (.seq
    (.region [
    ⟨.mov, [.loc 0], some 11, none⟩,
    ⟨.len, [.tmp 0], some 12, none⟩,
    ⟨.mov, [.c (.int .i64 0)], some 13, none⟩])
    (.block 2
    (.loop
    (.seq
    (.region [
    ⟨.bin .lss, [.loc 13, .loc 12], some 14, none⟩])
    (.seq
    (.cond (.loc 14)
      .skip
      (.exit 2))
    (.seq
    (.block 3
    (.seq
    (.region [
    ⟨.iaddr 1 none, [.loc 11, .loc 13], none, none⟩,
    ⟨.load none, [.tmp 0], none, none⟩,
    ⟨.mov, [.tmp 1], some 5, none⟩])
    (.region [
    ⟨.mov, [.loc 4], none, none⟩,
    ⟨.mov, [.loc 5], none, none⟩,
    ⟨.append 1 8, [.tmp 0, .tmp 1], none, none⟩,
    ⟨.mov, [.tmp 2], some 4, none⟩])))
    (.region [
    ⟨.bin .add, [.loc 13, .c (.int .i64 1)], none, none⟩,
    ⟨.mov, [.tmp 0], some 13, none⟩])))))))
    (.seq
    (.region [
    ⟨.mov, [.loc 4], none, none⟩,
    ⟨.mov, [.tmp 0], some 1, none⟩])
    .ret)))))) }
def law11_rings : AFn := { nloc := 6, npar := 0, res := [.cell 0 (some 6), .loc 1], body :=
    (.seq
    (.region [
    ⟨.alloc [.int .i64 0, .int .i64 0, .int .i64 0, .int .i64 0, .int .i64 0, .int .i64 0], [], some 0, none⟩,
    ⟨.mov, [.c (.nilp)], some 1, none⟩])
    (.seq
    (.region [
    ⟨.build [.int .i64 0, .int .i64 0, .int .i64 0, .int .i64 0, .int .i64 0, .int .i64 0] [(0, 1), (1, 1), (2, 1), (3, 1), (4, 1)], [.c (.int .i64 2), .c (.int .i64 4), .c (.int .i64 9), .c (.int .i64 3), .c (.int .i64 2)], none, none⟩,
    ⟨.alloc [.int .i64 0, .int .i64 0, .int .i64 0, .int .i64 0, .int .i64 0, .int .i64 0], [], some 2, none⟩,
    ⟨.store 6, [.tmp 1, .tmp 0], none, none⟩])
    (.seq
    (.region [
    ⟨.load (some 6), [.loc 2], none, none⟩,
    ⟨.call 156, [.tmp 0], none, none⟩,
    ⟨.call 21, [.tmp 1], none, none⟩,
    ⟨.mov, [.tmp 2], some 3, none⟩])
    (.seq
    (.seq
    (.region [
    ⟨.mov, [.c (.int .i64 0)], some 4, none⟩])
    (.block 0
    (.loop
    (.seq
    (.seq
    (.region [
    ⟨.mov, [.loc 4], none, none⟩,
    ⟨.bin .lss, [.tmp 0, .c (.int .i64 3)], some 5, none⟩])
    (.cond (.loc 5)
      .skip
      (.exit 0)))
    (.seq
    (.block 1
    (.region [
    ⟨.mov, [.loc 3], none, none⟩,
    ⟨.load (some 6), [.loc 2], none, none⟩,
    ⟨.mov, [.loc 4], none, none⟩,
    ⟨.conv .u32, [.tmp 2], none, none⟩,
    ⟨.call 160, [.tmp 1, .c (.int .i64 1), .tmp 3], none, none⟩,
    ⟨.mov, [.loc 4], none, none⟩,
    ⟨.bin .add, [.c (.int .i64 5), .tmp 5], none, none⟩,
    ⟨.conv .u64, [.tmp 6], none, none⟩,
    ⟨.call 22, [.tmp 0, .tmp 4, .tmp 7], none, none⟩]))
    (.region [
    ⟨.mov, [.loc 4], none, none⟩,
    ⟨.bin .add, [.tmp 0, .c (.int .i64 1)], none, none⟩,
    ⟨.mov, [.tmp 1], some 4, none⟩]))))))
    (.seq
    (.region [
    ⟨.mov, [.loc 3], none, none⟩,
    ⟨.load (some 6), [.loc 2], none, none⟩,
    ⟨.call 159, [.tmp 1, .c (.int .i64 1)], none, none⟩,
    ⟨.call 22, [.tmp 0, .tmp 2, .c (.int .u64 3)], none, none⟩])
    (.seq
    (.region [
    ⟨.load (some 6), [.loc 2], none, none⟩,
    ⟨.mov, [.loc 3], none, none⟩,
    ⟨.store 6, [.loc 0, .tmp 0], none, none⟩,
    ⟨.mov, [.tmp 1], some 1, none⟩])
    .ret)))))) }
def ref06_New : AFn := F09.ref06_New
def conf_Config_Cells : AFn := F09.conf_Config_Cells
def conf_Config_Right : AFn := F09.conf_Config_Right
def docs_byteAt : AFn := F09.docs_byteAt
def conf_Config_Slot : AFn := F09.conf_Config_Slot
def conf_Config_Next : AFn := F09.conf_Config_Next
def conf_Config_Stat : AFn := F09.conf_Config_Stat
def conf_Config_Tick : AFn := F09.conf_Config_Tick
def conf_Config_Sys : AFn := F09.conf_Config_Sys
def conf_Config_Flag : AFn := F09.conf_Config_Flag
def cell_Mem_All : AFn := F09.cell_Mem_All
def cell_Mem_access : AFn := F09.cell_Mem_access
def cell_Mem_Store_1 : AFn := F09.cell_Mem_Store_1
def ref06_there : AFn := F09.ref06_there
def ref06_with : AFn := F09.ref06_with
def conf_own_at : AFn := F09.conf_own_at
def put_from : AFn := F09.put_from
def put_Put_Done : AFn := F09.put_Put_Done
def put_ways : AFn := F09.put_ways
def slices_Clone_int : AFn := F09.slices_Clone_int
def cell_Mem_Load : AFn := F09.cell_Mem_Load
def word_Len : AFn := F09.word_Len
def word_Head : AFn := F09.word_Head
def steal_Steal_half : AFn := { nloc := 2, npar := 1, res := [.loc 1], body :=
    (.seq
    (.region [
    ⟨.mov, [.c (.int .i64 0)], some 1, none⟩])
    (.seq
    (.region [
    ⟨.mov, [.loc 0], none, none⟩,
    ⟨.nilc, [.tmp 0], none, none⟩,
    ⟨.faddr 10, [.tmp 1], none, none⟩,
    ⟨.load none, [.tmp 2], none, none⟩,
    ⟨.call 178, [.tmp 3], none, none⟩,
    ⟨.call 289, [.tmp 4], none, none⟩,
    ⟨.conv .i64, [.tmp 5], none, none⟩,
    ⟨.mov, [.tmp 6], some 1, none⟩])
    .ret)) }
def cell_Mem_CAS : AFn := F09.cell_Mem_CAS
def word_Gain : AFn := { nloc := 3, npar := 2, res := [.loc 2], body :=
    (.seq
    (.region [
    ⟨.mov, [.c (.int .u64 0)], some 2, none⟩])
    (.seq
    (.region [
    ⟨.mov, [.loc 0], none, none⟩,
    ⟨.call 179, [.tmp 0], none, none⟩,
    ⟨.mov, [.loc 1], none, none⟩,
    ⟨.bin .add, [.tmp 1, .tmp 2], none, none⟩,
    ⟨.mov, [.loc 0], none, none⟩,
    ⟨.call 182, [.tmp 4], none, none⟩,
    ⟨.call 183, [.tmp 3, .tmp 5], none, none⟩,
    ⟨.mov, [.tmp 6], some 2, none⟩])
    .ret)) }
def put_NewLay : AFn := F09.put_NewLay
def put_Lay_Done : AFn := F09.put_Lay_Done
def put_Lay_look : AFn := F09.put_Lay_look
def put_ring_slot : AFn := F09.put_ring_slot
def put_ring_change : AFn := F09.put_ring_change
def word_Grow : AFn := F09.word_Grow
def put_Lay_Hands : AFn := F09.put_Lay_Hands
def slices_Grow_int : AFn := { nloc := 5, npar := 2, res := [.loc 2], body :=
    (.seq
    (.region [
    ⟨.mov, [.c (.nils)], some 2, none⟩])
    (.seq
    (.seq
    (.region [
    ⟨.mov, [.loc 1], none, none⟩,
    ⟨.bin .lss, [.tmp 0, .c (.int .i64 0)], some 3, none⟩])
    (.cond (.loc 3)
      (.region [
    ⟨.trap, [], none, none⟩,
    ⟨.trap, [], none, none⟩])
      .skip))
    (.seq
    (.seq
    (.region [
    ⟨.mov, [.loc 1], none, none⟩,
    ⟨.mov, [.loc 0], none, none⟩,
    ⟨.cap, [.tmp 1], none, none⟩,
    ⟨.mov, [.loc 0], none, none⟩,
    ⟨.len, [.tmp 3], none, none⟩,
    ⟨.bin .sub, [.tmp 2, .tmp 4], none, none⟩,
    ⟨.bin .sub, [.tmp 0, .tmp 5], none, none⟩,
    ⟨.mov, [.tmp 6], some 1, none⟩])
    (.seq
    (.region [
    ⟨.mov, [.loc 1], none, none⟩,
    ⟨.bin .gtr, [.tmp 0, .c (.int .i64 0)], some 4, none⟩])
    (.cond (.loc 4)
      (.region [
    ⟨.mov, [.loc 0], none, none⟩,
    ⟨.mov, [.loc 0], none, none⟩,
    ⟨.cap, [.tmp 1], none, none⟩,
    ⟨.slice 1 false true false, [.tmp 0, .tmp 2], none, none⟩,
    ⟨.mov, [.loc 1], none, none⟩,
    ⟨.appendz 1 8 [.int .i64 0], [.tmp 3, .tmp 4], none, none⟩,
    ⟨.mov, [.loc 0], none, none⟩,
    ⟨.len, [.tmp 6], none, none⟩,
    ⟨.slice 1 false true false, [.tmp 5, .tmp 7], none, none⟩,
    ⟨.mov, [.tmp 8], some 0, none⟩])
      .skip)))
    (.seq
    (.region [
    ⟨.mov, [.loc 0], none, none⟩,
    ⟨.mov, [.tmp 0], some 2, none⟩])
    .ret)))) }
def conf_within : AFn := F09.conf_within
def slices_Clone_uint64 : AFn := F09.slices_Clone_uint64
def cell_Mem_there : AFn := F09.cell_Mem_there
def cell_counts_note : AFn := F09.cell_counts_note
def put_Put_look : AFn := F09.put_Put_look
def put_Put_lay : AFn := F09.put_Put_lay
def put_Put_swing : AFn := F09.put_Put_swing
def put_Put_take : AFn := F09.put_Put_take
def put_Put_cut : AFn := F09.put_Put_cut
def cell_Mem_Load_1 : AFn := F09.cell_Mem_Load_1
def word_Tail : AFn := F09.word_Tail
def word_Older : AFn := { nloc := 2, npar := 1, res := [.loc 1], body :=
    (.seq
    (.region [
    ⟨.mov, [.c (.int .u32 0)], some 1, none⟩])
    (.seq
    (.region [
    ⟨.mov, [.loc 0], none, none⟩,
    ⟨.mov, [.loc 0], none, none⟩,
    ⟨.bin .quo, [.tmp 1, .c (.int .u32 2)], none, none⟩,
    ⟨.bin .sub, [.tmp 0, .tmp 2], none, none⟩,
    ⟨.mov, [.tmp 3], some 1, none⟩])
    .ret)) }
def cell_Mem_CAS_1 : AFn := F09.cell_Mem_CAS_1
def word_Pack : AFn := F09.word_Pack
def slices_DeleteFunc_int : AFn := F09.slices_DeleteFunc_int
def put_NewLay_1 : AFn := F09.put_NewLay_1
def put_ring_load : AFn := F09.put_ring_load
def put_Put_half : AFn := F09.put_Put_half
def word_Drop : AFn := F09.word_Drop
def slices_IndexFunc_int : AFn := F09.slices_IndexFunc_int
end Go.Am.F11
end
section
namespace Go.Am
section
variable {X : Type} {G : List (Nat × AFun X)}
def OB (x : Option (AV × Mem X)) (K : AV → Mem X → Prop) : Prop := ∃ v m, x = some (v, m) ∧ K v m
theorem OB_some {v : AV} {m : Mem X} {K : AV → Mem X → Prop} : OB (some (v, m)) K = K v m := by
  apply propext
  constructor
  · rintro ⟨v', m', h, hk⟩
    simp only [Option.some.injEq, Prod.mk.injEq] at h
    obtain ⟨rfl, rfl⟩ := h
    exact hk
  · intro h; exact ⟨v, m, rfl, h⟩
theorem OB_none {K : AV → Mem X → Prop} : OB none K = False := by simp [OB]
def WG (x : Option Bool) (K1 K2 : Prop) : Prop := (x = some true ∧ K1) ∨ (x = some false ∧ K2)
theorem WG_none {j : List AV} {K1 K2 : Prop} : WG (wantedA j none) K1 K2 = K1 := by simp [WG, wantedA]
def WO (G : List (Nat × AFun X)) : List AOper → (List AV → Mem X → Prop) → List AV → List AV → Mem X → Prop
  | [], Q, e, _, m => Q e m
  | o :: os, Q, e, rt, m => WG (wantedA rt o.guard) (OB (amOp G o.op (o.args.map (getS e rt)) m) fun v m' => WO G os Q (putL e o.dst v) (rt ++ [v]) m')
      (WO G os Q (putL e o.dst .skip) (rt ++ [.skip]) m)
theorem WO_out : ∀ {ops : List AOper} {Q : List AV → Mem X → Prop} {e rt : List AV} {m : Mem X}, WO G ops Q e rt m → ∃ e' m', amOps G ops e rt m = some (e', m') ∧ Q e' m'
  | [], Q, e, rt, m, h => ⟨e, m, rfl, h⟩
  | o :: os, Q, e, rt, m, h => by
    unfold WO at h
    rcases h with ⟨h1, v, m', h2, h3⟩ | ⟨h1, h3⟩
    · obtain ⟨e', m'', h4, h5⟩ := WO_out h3
      exact ⟨e', m'', by simp only [amOps, h1, h2, h4], h5⟩
    · obtain ⟨e', m'', h4, h5⟩ := WO_out h3
      exact ⟨e', m'', by simp only [amOps, h1, h4], h5⟩
def WT (G : List (Nat × AFun X)) (fin : List (Bool × List AV × AV × Mem X) → Mem X → Bool) : List AOper → (List AV → Mem X → Prop) → List AV → List AV → Mem X → List (Bool × List AV × AV × Mem X) → Prop
  | [], Q, e, _, m, tr => fin tr m = true ∧ Q e m
  | o :: os, Q, e, rt, m, tr => WG (wantedA rt o.guard) (OB (amOp G o.op (o.args.map (getS e rt)) m) fun v m' => WT G fin os Q (putL e o.dst v) (rt ++ [v]) m' (tr ++ [(true, o.args.map (getS e rt), v, m)]))
      (WT G fin os Q (putL e o.dst .skip) (rt ++ [.skip]) m (tr ++ [(false, o.args.map (getS e rt), .skip, m)]))
theorem WT_out {fin : List (Bool × List AV × AV × Mem X) → Mem X → Bool} : ∀ {ops : List AOper} {Q : List AV → Mem X → Prop} {e rt : List AV} {m : Mem X} {tr : List (Bool × List AV × AV × Mem X)}, WT G fin ops Q e rt m tr →
    ∃ e' m' tr', amOpsT G ops e rt m = some (e', m', tr') ∧ fin (tr ++ tr') m' = true ∧ Q e' m'
  | [], Q, e, rt, m, tr, h => ⟨e, m, [], rfl, by simpa using h.1, h.2⟩
  | o :: os, Q, e, rt, m, tr, h => by
    unfold WT at h
    rcases h with ⟨h1, v, m', h2, h3⟩ | ⟨h1, h3⟩
    · obtain ⟨e', m'', tr', h4, h5, h6⟩ := WT_out h3
      exact ⟨e', m'', (true, o.args.map (getS e rt), v, m) :: tr', by simp only [amOpsT, h1, h2, h4], by simpa using h5, h6⟩
    · obtain ⟨e', m'', tr', h4, h5, h6⟩ := WT_out h3
      exact ⟨e', m'', (false, o.args.map (getS e rt), .skip, m) :: tr', by simp only [amOpsT, h1, h4], by simpa using h5, h6⟩
def W (G : List (Nat × AFun X)) (c : AC) (Q : AX → List AV → Mem X → Prop) (e : List AV) (m : Mem X) : Prop := ∃ x e' m', am G c e m = some (x, e', m') ∧ Q x e' m'
variable {Q : AX → List AV → Mem X → Prop} {e : List AV} {m : Mem X}
theorem W_skip : W G .skip Q e m = Q .normal e m := by
  apply propext
  constructor
  · rintro ⟨x, e', m', h, hk⟩
    simp only [am, Option.some.injEq, Prod.mk.injEq] at h
    obtain ⟨rfl, rfl, rfl⟩ := h
    exact hk
  · intro h; exact ⟨_, _, _, rfl, h⟩
theorem W_exit {id : Nat} : W G (.exit id) Q e m = Q (.exit id) e m := by
  apply propext
  constructor
  · rintro ⟨x, e', m', h, hk⟩
    simp only [am, Option.some.injEq, Prod.mk.injEq] at h
    obtain ⟨rfl, rfl, rfl⟩ := h
    exact hk
  · intro h; exact ⟨_, _, _, rfl, h⟩
theorem W_ret : W G .ret Q e m = Q .ret e m := by
  apply propext
  constructor
  · rintro ⟨x, e', m', h, hk⟩
    simp only [am, Option.some.injEq, Prod.mk.injEq] at h
    obtain ⟨rfl, rfl, rfl⟩ := h
    exact hk
  · intro h; exact ⟨_, _, _, rfl, h⟩
theorem W_goto {l : Nat} : W G (.goto l) Q e m = Q (.goto l) e m := by
  apply propext
  constructor
  · rintro ⟨x, e', m', h, hk⟩
    simp only [am, Option.some.injEq, Prod.mk.injEq] at h
    obtain ⟨rfl, rfl, rfl⟩ := h
    exact hk
  · intro h; exact ⟨_, _, _, rfl, h⟩
def jumpQ (l : Nat) (K : List AV → Mem X → Prop) (Q : AX → List AV → Mem X → Prop) : AX → List AV → Mem X → Prop
  | .goto l', e, m => l' = l ∧ K e m
  | x, e, m => Q x e m
def noG (Q : AX → List AV → Mem X → Prop) : AX → List AV → Mem X → Prop
  | .goto _, _, _ => False
  | x, e, m => Q x e m
theorem jumpQ_normal {l : Nat} {K : List AV → Mem X → Prop} : jumpQ l K Q .normal e m = Q .normal e m := rfl
theorem jumpQ_ret {l : Nat} {K : List AV → Mem X → Prop} : jumpQ l K Q .ret e m = Q .ret e m := rfl
theorem jumpQ_exit {l id : Nat} {K : List AV → Mem X → Prop} : jumpQ l K Q (.exit id) e m = Q (.exit id) e m := rfl
theorem jumpQ_goto {l : Nat} {K : List AV → Mem X → Prop} : jumpQ l K Q (.goto l) e m = K e m := by simp [jumpQ]
theorem noG_normal : noG Q .normal e m = Q .normal e m := rfl
theorem noG_ret : noG Q .ret e m = Q .ret e m := rfl
theorem noG_exit {id : Nat} : noG Q (.exit id) e m = Q (.exit id) e m := rfl
theorem W_scopeg {l : Nat} {r b : AC} : W G (.scopeg l r b) Q e m = W G b (jumpQ l (W G r (noG Q)) Q) e m := by
  apply propext
  constructor
  · rintro ⟨x, e', m', h, hk⟩
    simp only [am] at h
    split at h
    · rename_i l' e1 m1 h1
      split at h
      · rename_i hll
        subst hll
        split at h
        · cases h
        · rename_i hne
          refine ⟨_, _, _, h1, rfl, x, e', m', h, ?_⟩
          cases x with
          | goto l2 => exact absurd h (hne _ _ _)
          | normal => exact hk
          | exit id => exact hk
          | ret => exact hk
      · cases h
    · rename_i hne
      refine ⟨x, e', m', h, ?_⟩
      cases x with
      | goto l2 => exact absurd h (hne _ _ _)
      | normal => exact hk
      | exit id => exact hk
      | ret => exact hk
  · rintro ⟨x, e', m', h, hk⟩
    cases x with
    | goto l2 =>
      obtain ⟨rfl, y, e2, m2, h2, hk2⟩ := hk
      cases y with
      | goto l3 => cases hk2
      | normal => exact ⟨_, e2, m2, by simp only [am, h, h2, if_true], hk2⟩
      | exit id => exact ⟨_, e2, m2, by simp only [am, h, h2, if_true], hk2⟩
      | ret => exact ⟨_, e2, m2, by simp only [am, h, h2, if_true], hk2⟩
    | normal => exact ⟨_, _, _, by simp only [am, h], hk⟩
    | exit id => exact ⟨_, _, _, by simp only [am, h], hk⟩
    | ret => exact ⟨_, _, _, by simp only [am, h], hk⟩
theorem W_region {ops : List AOper} (h : WO G ops (Q .normal) e [] m) : W G (.region ops) Q e m := by
  obtain ⟨e', m', h1, h2⟩ := WO_out h
  exact ⟨_, _, _, by simp only [am, h1], h2⟩
theorem W_draw {p : List Nat} {k : Nat} {ops : List AOper} {stab : List (Nat × List Nat)} (h : WT G (fun tr m => stabOk G ops tr m stab) ops (Q .normal) e [] m []) : W G (.draw p k ops stab) Q e m := by
  obtain ⟨e', m', tr, h1, h2, h3⟩ := WT_out h
  exact ⟨_, _, _, by simp only [am, h1]; rw [if_pos (by simpa using h2)], h3⟩
def thenQ (Q : AX → List AV → Mem X → Prop) (K : List AV → Mem X → Prop) : AX → List AV → Mem X → Prop
  | .normal, e, m => K e m
  | x, e, m => Q x e m
theorem thenQ_normal {K : List AV → Mem X → Prop} : thenQ Q K .normal e m = K e m := rfl
theorem thenQ_exit {K : List AV → Mem X → Prop} {id : Nat} : thenQ Q K (.exit id) e m = Q (.exit id) e m := rfl
theorem thenQ_goto {K : List AV → Mem X → Prop} {l : Nat} : thenQ Q K (.goto l) e m = Q (.goto l) e m := rfl
theorem thenQ_ret {K : List AV → Mem X → Prop} : thenQ Q K .ret e m = Q .ret e m := rfl
theorem W_seq {a b : AC} (h : W G a (thenQ Q (fun e m => W G b Q e m)) e m) : W G (.seq a b) Q e m := by
  obtain ⟨x, e', m', h1, h2⟩ := h
  cases x with
  | normal =>
    obtain ⟨y, e2, m2, h3, h4⟩ := h2
    exact ⟨y, e2, m2, by simp only [am, h1, h3], h4⟩
  | exit id => exact ⟨_, _, _, by simp only [am, h1], h2⟩
  | ret => exact ⟨_, _, _, by simp only [am, h1], h2⟩
  | goto l => exact ⟨_, _, _, by simp only [am, h1], h2⟩
theorem W_cond {c : Src} {t f : AC} {b : Bool} (hc : getS e [] c = .bool b) (h : if b = true then W G t Q e m else W G f Q e m) : W G (.cond c t f) Q e m := by
  cases b with
  | true => obtain ⟨x, e', m', h1, h2⟩ := h; exact ⟨x, e', m', by simp only [am, hc, h1, if_true], h2⟩
  | false => obtain ⟨x, e', m', h1, h2⟩ := h; exact ⟨x, e', m', by simp only [am, hc, h1]; rfl, h2⟩
def blockQ (id : Nat) (Q : AX → List AV → Mem X → Prop) : AX → List AV → Mem X → Prop
  | .exit id', e, m => if id' = id then Q .normal e m else Q (.exit id') e m
  | x, e, m => Q x e m
theorem blockQ_normal {id : Nat} : blockQ id Q .normal e m = Q .normal e m := rfl
theorem blockQ_goto {id l : Nat} : blockQ id Q (.goto l) e m = Q (.goto l) e m := rfl
theorem blockQ_ret {id : Nat} : blockQ id Q .ret e m = Q .ret e m := rfl
theorem blockQ_exit {id id' : Nat} : blockQ id Q (.exit id') e m = if id' = id then Q .normal e m else Q (.exit id') e m := rfl
theorem W_block {id : Nat} {b : AC} (h : W G b (blockQ id Q) e m) : W G (.block id b) Q e m := by
  obtain ⟨x, e', m', h1, h2⟩ := h
  cases x with
  | normal => exact ⟨_, _, _, by simp only [am, h1], h2⟩
  | exit id' =>
    simp only [blockQ] at h2
    by_cases hi : id' = id
    · rw [if_pos hi] at h2; exact ⟨_, _, _, by simp only [am, h1]; rw [if_pos hi], h2⟩
    · rw [if_neg hi] at h2; exact ⟨_, _, _, by simp only [am, h1]; rw [if_neg hi], h2⟩
  | ret => exact ⟨_, _, _, by simp only [am, h1], h2⟩
  | goto l => exact ⟨_, _, _, by simp only [am, h1], h2⟩
theorem W_mono {c : AC} {Q' : AX → List AV → Mem X → Prop} (h : W G c Q' e m) (hq : ∀ x e' m', Q' x e' m' → Q x e' m') : W G c Q e m := by
  obtain ⟨x, e', m', h1, h2⟩ := h
  exact ⟨x, e', m', h1, hq _ _ _ h2⟩
theorem W_loop {b : AC} (I : Nat → List AV → Mem X → Prop) (n : Nat) (hn : n < FUEL) (h0 : I n e m)
    (hs : ∀ n e m, I n e m → W G b (thenQ Q (fun e' m' => ∃ k, k < n ∧ I k e' m')) e m) : W G (.loop b) Q e m := by
  have key : ∀ (N n : Nat) (e : List AV) (m : Mem X), n < N → I n e m → ∃ x e' m', iter (am G b) N e m = some (x, e', m') ∧ Q x e' m' := by
    intro N
    induction N with
    | zero => intro n e m h; omega
    | succ N ih =>
      intro n e m hlt hI
      obtain ⟨x, e1, m1, h1, h2⟩ := hs n e m hI
      cases x with
      | normal =>
        obtain ⟨k, hk, hI'⟩ := h2
        obtain ⟨x, e2, m2, h3, h4⟩ := ih k e1 m1 (by omega) hI'
        exact ⟨x, e2, m2, by simp only [iter, h1, h3], h4⟩
      | exit id => exact ⟨_, _, _, by simp only [iter, h1], h2⟩
      | ret => exact ⟨_, _, _, by simp only [iter, h1], h2⟩
      | goto l => exact ⟨_, _, _, by simp only [iter, h1], h2⟩
  exact key FUEL n e m hn h0
def Fn (G : List (Nat × AFun X)) (F : AFn) (args : List AV) (m : Mem X) (Q : AV → Mem X → Prop) : Prop := OB (amFunc G F args m) Q
def resQ (res : List ARes) (Q : AV → Mem X → Prop) : AX → List AV → Mem X → Prop
  | .exit _, _, _ => False
  | .goto _, _, _ => False
  | _, e, m => ∃ vs, resAll e m res = some vs ∧ Q (tupA vs) m
theorem Fn_of {F : AFn} {args : List AV} {Q : AV → Mem X → Prop} (hl : args.length = F.npar) (h : W G F.body (resQ F.res Q) (args ++ List.replicate (F.nloc - F.npar) .skip) m) : Fn G F args m Q := by
  obtain ⟨x, e', m', h1, h2⟩ := h
  cases x with
  | exit id => cases h2
  | goto l => cases h2
  | normal =>
    obtain ⟨vs, h3, h4⟩ := h2
    exact ⟨_, _, by simp only [amFunc, h1, h3]; rw [if_pos hl], h4⟩
  | ret =>
    obtain ⟨vs, h3, h4⟩ := h2
    exact ⟨_, _, by simp only [amFunc, h1, h3]; rw [if_pos hl], h4⟩
end
end Go.Am
end
section
namespace Go.Am
section
variable {X : Type}
def OK (G : List (Nat × AFun X)) (os : List AOper) (Q : List AV → Mem X → Prop) (e : List AV) (dst : Option Nat) (rt : List AV) (x : Option (AV × Mem X)) : Prop := OB x fun v m => WO G os Q (putL e dst v) (rt ++ [v]) m
def GK (G : List (Nat × AFun X)) (op : AOp) (args : List Src) (os : List AOper) (Q : List AV → Mem X → Prop) (e : List AV) (dst : Option Nat) (rt : List AV) (m : Mem X) (g : Option Bool) : Prop :=
  WG g (OK G os Q e dst rt (amOp G op (args.map (getS e rt)) m)) (WO G os Q (putL e dst .skip) (rt ++ [.skip]) m)
def WI (b : Bool) (K L : Prop) : Prop := if b = true then K else L
theorem WI_true {K L : Prop} : WI true K L = K := by simp [WI]
theorem WI_false {K L : Prop} : WI false K L = L := by simp [WI]
theorem WI_of {b : Bool} {K L : Prop} (h1 : b = true → K) (h2 : b = false → L) : WI b K L := by
  cases b with
  | true => simpa [WI] using h1 rfl
  | false => simpa [WI] using h2 rfl
theorem WG_bool {b : Bool} {K L : Prop} : WG (some b) K L = WI b K L := by cases b <;> simp [WG, WI]
theorem evB (k : IntKind) (a b : Int) :
    (binI .add k a b = some (.int k (k.wrap (a + b)))) ∧
    (binI .sub k a b = some (.int k (k.wrap (a - b)))) ∧
    (binI .mul k a b = some (.int k (k.wrap (a * b)))) ∧
    (binI .quo k a b = if b = 0 then none else some (.int k (k.wrap (a.tdiv b)))) ∧
    (binI .rem k a b = if b = 0 then none else some (.int k (a.tmod b))) ∧
    (binI .eql k a b = some (.bool (decide (a = b)))) ∧
    (binI .neq k a b = some (.bool (decide (a ≠ b)))) ∧
    (binI .lss k a b = some (.bool (decide (a < b)))) ∧
    (binI .leq k a b = some (.bool (decide (a ≤ b)))) ∧
    (binI .gtr k a b = some (.bool (decide (b < a)))) ∧
    (binI .geq k a b = some (.bool (decide (b ≤ a)))) := by
  refine ⟨rfl, rfl, rfl, rfl, rfl, ?_, ?_, rfl, rfl, rfl, rfl⟩
  · simp only [binI]; congr 2
  · simp only [binI]; congr 2; by_cases h : a = b <;> simp [h]
theorem evS :
    (∀ e rt j, getS e rt (.loc j) = e.getD j .skip) ∧
    (∀ e rt j, getS e rt (.tmp j) = rt.getD j .skip) ∧
    (∀ e rt v, getS e rt (.c v) = v) ∧
    (∀ e v, putL e none v = e) ∧
    (∀ e j v, putL e (some j) v = e.set j v) ∧
    (∀ rt j, wantedA rt (some (j, true)) = match rt[j]? with | some (.bool b) => some b | some (.tup []) => some false | _ => none) ∧
    (∀ rt j, wantedA rt (some (j, false)) = match rt[j]? with | some (.bool b) => some (!b) | some (.tup []) => some false | _ => none) := by
  refine ⟨fun _ _ _ => rfl, fun _ _ _ => rfl, fun _ _ _ => rfl, fun _ _ => rfl, fun _ _ _ => rfl, fun rt j => ?_, fun rt j => ?_⟩
  · simp only [wantedA]; split <;> simp_all
  · simp only [wantedA]; split <;> simp_all
theorem evL {α : Type} :
    (∀ (x d : α) xs, (x :: xs).getD 0 d = x) ∧
    (∀ (x d : α) xs n, (x :: xs).getD (n + 1) d = xs.getD n d) ∧
    (∀ (x : α) xs, (x :: xs)[0]? = some x) ∧
    (∀ (x : α) xs n, (x :: xs)[n + 1]? = xs[n]?) ∧
    (∀ (x y : α) xs, (x :: xs).set 0 y = y :: xs) ∧
    (∀ (x y : α) xs n, (x :: xs).set (n + 1) y = x :: xs.set n y) ∧
    (∀ (x : α) xs ys, x :: xs ++ ys = x :: (xs ++ ys)) ∧
    (∀ (xs : List α), [] ++ xs = xs) ∧
    (∀ (x : α) xs n, (x :: xs).take (n + 1) = x :: xs.take n) ∧
    (∀ (xs : List α), xs.take 0 = []) ∧
    (∀ (x : α) xs n, (x :: xs).drop (n + 1) = xs.drop n) ∧
    (∀ (xs : List α), xs.drop 0 = xs) ∧
    (∀ (x : α) xs, (x :: xs).length = xs.length + 1) ∧
    (([] : List α).length = 0) := by
  refine ⟨fun _ _ _ => rfl, fun _ _ _ _ => rfl, fun _ _ => rfl, fun _ _ _ => rfl, fun _ _ _ => rfl, fun _ _ _ _ => rfl, fun _ _ _ => rfl, fun _ => rfl, fun _ _ _ => rfl, fun _ => rfl, fun _ _ _ => rfl, fun _ => rfl, fun _ _ => rfl, rfl⟩
theorem WO_eq {G : List (Nat × AFun X)} : ∀ {ops : List AOper} {Q : List AV → Mem X → Prop} {e rt : List AV} {m : Mem X}, WO G ops Q e rt m = ∃ e' m', amOps G ops e rt m = some (e', m') ∧ Q e' m' := by
  intro ops
  induction ops with
  | nil =>
    intro Q e rt m
    refine propext ⟨WO_out, ?_⟩
    rintro ⟨e', m', h, hq⟩
    simp only [amOps, Option.some.injEq, Prod.mk.injEq] at h
    obtain ⟨rfl, rfl⟩ := h
    exact hq
  | cons o os ih =>
    intro Q e rt m
    refine propext ⟨WO_out, ?_⟩
    rintro ⟨e', m', h, hq⟩
    simp only [amOps] at h
    split at h
    · rename_i hw
      split at h
      · rename_i v m1 h1
        refine .inl ⟨hw, v, m1, h1, ?_⟩
        show WO G os Q (putL e o.dst v) (rt ++ [v]) m1
        rw [ih]; exact ⟨e', m', h, hq⟩
      · cases h
    · rename_i hw
      refine .inr ⟨hw, ?_⟩
      rw [ih]; exact ⟨e', m', h, hq⟩
    · cases h
def CW (G : List (Nat × AFun X)) (t f : AC) (Q : AX → List AV → Mem X → Prop) (e : List AV) (m : Mem X) (v : AV) : Prop := ∃ b, v = .bool b ∧ WI b (W G t Q e m) (W G f Q e m)
theorem CW_bool {G : List (Nat × AFun X)} {t f : AC} {Q : AX → List AV → Mem X → Prop} {e : List AV} {m : Mem X} {b : Bool} : CW G t f Q e m (.bool b) = WI b (W G t Q e m) (W G f Q e m) := by simp [CW]
def RQ (Q : AV → Mem X → Prop) (m : Mem X) (x : Option (List AV)) : Prop := ∃ vs, x = some vs ∧ Q (tupA vs) m
theorem RQ_some {Q : AV → Mem X → Prop} {m : Mem X} {vs : List AV} : RQ Q m (some vs) = Q (tupA vs) m := by simp [RQ]
theorem evW (G : List (Nat × AFun X)) :
    (∀ ops Q e m, W G (.region ops) Q e m = WO G ops (Q .normal) e ([] ++ []) m) ∧
    (∀ a b Q e m, W G (.seq a b) Q e m = W G a (thenQ Q (W G b Q)) e m) ∧
    (∀ c t f Q e m, W G (.cond c t f) Q e m = CW G t f Q e m (getS e [] c)) ∧
    (∀ id b Q e m, W G (.block id b) Q e m = W G b (blockQ id Q) e m) ∧
    (∀ Q e m, W G .skip Q e m = Q .normal e m) ∧
    (∀ id Q e m, W G (.exit id) Q e m = Q (.exit id) e m) ∧
    (∀ Q e m, W G .ret Q e m = Q .ret e m) := by
  refine ⟨fun ops Q e m => ?_, fun a b Q e m => ?_, fun c t f Q e m => ?_, fun id b Q e m => ?_, fun _ _ _ => W_skip, fun _ _ _ _ => W_exit, fun _ _ _ => W_ret⟩
  · refine propext ⟨?_, W_region⟩
    rintro ⟨x, e', m', h, hq⟩
    simp only [am] at h
    split at h
    · rename_i e1 m1 h1
      simp only [Option.some.injEq, Prod.mk.injEq] at h
      obtain ⟨rfl, rfl, rfl⟩ := h
      rw [WO_eq]; exact ⟨_, _, h1, hq⟩
    · cases h
  · refine propext ⟨?_, W_seq⟩
    rintro ⟨x, e', m', h, hq⟩
    simp only [am] at h
    split at h
    · rename_i e1 m1 h1
      exact ⟨_, _, _, h1, ⟨x, e', m', h, hq⟩⟩
    · rename_i hne
      refine ⟨_, _, _, h, ?_⟩
      cases x with
      | normal => exact absurd h (hne e' m')
      | exit id => exact hq
      | ret => exact hq
      | goto l => exact hq
  · refine propext ⟨?_, ?_⟩
    · rintro ⟨x, e', m', h, hq⟩
      simp only [am] at h
      split at h
      · rename_i b hb
        refine ⟨b, hb, ?_⟩
        cases b with
        | true => simp only [if_true] at h; rw [WI_true]; exact ⟨x, e', m', h, hq⟩
        | false => rw [WI_false]; exact ⟨x, e', m', h, hq⟩
      · cases h
    · rintro ⟨b, hb, hw⟩
      exact W_cond hb hw
  · refine propext ⟨?_, W_block⟩
    rintro ⟨x, e', m', h, hq⟩
    simp only [am] at h
    split at h
    · rename_i id' e1 m1 h1
      refine ⟨_, _, _, h1, ?_⟩
      simp only [blockQ]
      split at h
      · rename_i hi
        simp only [Option.some.injEq, Prod.mk.injEq] at h
        obtain ⟨rfl, rfl, rfl⟩ := h
        rw [if_pos hi]; exact hq
      · rename_i hi
        simp only [Option.some.injEq, Prod.mk.injEq] at h
        obtain ⟨rfl, rfl, rfl⟩ := h
        rw [if_neg hi]; exact hq
    · rename_i hne
      refine ⟨_, _, _, h, ?_⟩
      cases x with
      | normal => exact hq
      | exit id => exact absurd h (hne id e' m')
      | ret => exact hq
      | goto l => exact hq
theorem evQ : (∀ res Q e (m : Mem X), resQ res Q .normal e m = RQ Q m (resAll e m res)) ∧
    (∀ res Q e (m : Mem X), resQ res Q .ret e m = RQ Q m (resAll e m res)) := ⟨fun _ _ _ _ => rfl, fun _ _ _ _ => rfl⟩
theorem cond_bool {b x y : Bool} : cond b (AV.bool x) (AV.bool y) = AV.bool (cond b x y) := by cases b <;> rfl
theorem cond_int {b : Bool} {k : IntKind} {x y : Int} : cond b (AV.int k x) (AV.int k y) = AV.int k (cond b x y) := by cases b <;> rfl
theorem tupA_one {v : AV} : tupA [v] = v := rfl
theorem tupA_two {v u : AV} {vs : List AV} : tupA (v :: u :: vs) = .tup (v :: u :: vs) := rfl
theorem tupA_nil : tupA [] = .tup [] := rfl
end
end Go.Am
end
