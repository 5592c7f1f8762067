import Derived.Test.YtgfddegdjdeeoaaXG11
set_option linter.unusedSimpArgs false
set_option linter.unusedVariables false
section
namespace Go.Am.F10
set_option maxRecDepth 10000
def docs_Made : AFn := { nloc := 4, npar := 1, res := [.cell 2 (some 6)], body :=
    (.seq
    (.region [
    ⟨.box, [.loc 0], some 1, none⟩,
    ⟨.alloc [.int .i64 0, .int .i64 0, .int .i64 0, .int .i64 0, .int .i64 0, .int .i64 0], [], some 2, none⟩])
    (.seq
    (.region [
    ⟨.faddr 0, [.loc 1], none, none⟩,
    ⟨.load none, [.tmp 0], none, none⟩,
    ⟨.call 87, [.tmp 1, .c (.int .i64 4)], none, none⟩,
    ⟨.bin .add, [.c (.int .i64 1), .tmp 2], none, none⟩,
    ⟨.mov, [.tmp 3], some 3, none⟩])
    (.seq
    (.draw [0, 1, 2, 3, 4, 5, 6, 7, 8, 9, 10, 11, 12, 13, 14, 15, 16, 17, 18, 19, 20, 21, 22, 23] 0 [
    ⟨.mov, [.loc 3], none, none⟩,
    ⟨.faddr 1, [.loc 1], none, none⟩,
    ⟨.load none, [.tmp 1], none, none⟩,
    ⟨.call 87, [.tmp 2, .c (.int .i64 3)], none, none⟩,
    ⟨.shf .shl, [.c (.int .i64 2), .tmp 3], none, none⟩,
    ⟨.faddr 2, [.loc 1], none, none⟩,
    ⟨.load none, [.tmp 5], none, none⟩,
    ⟨.call 87, [.tmp 6, .c (.int .i64 20)], none, none⟩,
    ⟨.bin .add, [.c (.int .i64 1), .tmp 7], none, none⟩,
    ⟨.mov, [.loc 3], none, none⟩,
    ⟨.bin .add, [.tmp 9, .c (.int .i64 1)], none, none⟩,
    ⟨.faddr 3, [.loc 1], none, none⟩,
    ⟨.load none, [.tmp 11], none, none⟩,
    ⟨.call 87, [.tmp 12, .c (.int .i64 3)], none, none⟩,
    ⟨.bin .add, [.tmp 10, .tmp 13], none, none⟩,
    ⟨.faddr 4, [.loc 1], none, none⟩,
    ⟨.load none, [.tmp 15], none, none⟩,
    ⟨.call 87, [.tmp 16, .c (.int .i64 6)], none, none⟩,
    ⟨.bin .add, [.c (.int .i64 2), .tmp 17], none, none⟩,
    ⟨.faddr 5, [.loc 1], none, none⟩,
    ⟨.load none, [.tmp 19], none, none⟩,
    ⟨.call 87, [.tmp 20, .c (.int .i64 3)], none, none⟩,
    ⟨.build [.int .i64 0, .int .i64 0, .int .i64 0, .int .i64 0, .int .i64 0, .int .i64 0] [(0, 1), (1, 1), (2, 1), (3, 1), (4, 1), (5, 1)], [.tmp 0, .tmp 4, .tmp 8, .tmp 14, .tmp 18, .tmp 21], none, none⟩,
    ⟨.store 6, [.loc 2, .tmp 22], none, none⟩] [(6, [0]), (12, [0, 4]), (16, [0, 4, 8]), (20, [0, 4, 8, 14])])
    .ret))) }
def kit_Pick : AFn := { nloc := 4, npar := 2, res := [.loc 2], body :=
    (.seq
    (.region [
    ⟨.mov, [.c (.int .i64 0)], some 2, none⟩])
    (.seq
    (.seq
    (.region [
    ⟨.mov, [.loc 1], none, none⟩,
    ⟨.bin .leq, [.tmp 0, .c (.int .i64 0)], some 3, none⟩])
    (.cond (.loc 3)
      (.seq
      (.region [
    ⟨.mov, [.c (.int .i64 0)], some 2, none⟩])
      .ret)
      .skip))
    (.seq
    (.region [
    ⟨.mov, [.loc 0], none, none⟩,
    ⟨.mov, [.loc 1], none, none⟩,
    ⟨.bin .rem, [.tmp 0, .tmp 1], none, none⟩,
    ⟨.mov, [.loc 1], none, none⟩,
    ⟨.bin .add, [.tmp 2, .tmp 3], none, none⟩,
    ⟨.mov, [.loc 1], none, none⟩,
    ⟨.bin .rem, [.tmp 4, .tmp 5], none, none⟩,
    ⟨.mov, [.tmp 6], some 2, none⟩])
    .ret))) }
def docs_Mem : AFn := { nloc := 7, npar := 1, res := [.loc 1, .cell 2 (some 2)], body :=
    (.seq
    (.region [
    ⟨.mov, [.c (.nilp)], some 1, none⟩,
    ⟨.alloc [.nils, .int .u64 0], [], some 2, none⟩])
    (.seq
    (.region [
    ⟨.mov, [.loc 0], none, none⟩,
    ⟨.len, [.tmp 0], none, none⟩,
    ⟨.call 21, [.tmp 1], none, none⟩,
    ⟨.mov, [.loc 0], none, none⟩,
    ⟨.len, [.tmp 3], none, none⟩,
    ⟨.call 63, [.tmp 4], none, none⟩,
    ⟨.alloc [.nils, .int .u64 0], [], some 4, none⟩,
    ⟨.mov, [.tmp 2], some 3, none⟩,
    ⟨.store 2, [.tmp 6, .tmp 5], none, none⟩])
    (.seq
    (.seq
    (.region [
    ⟨.mov, [.c (.int .i64 0)], some 5, none⟩])
    (.block 0
    (.loop
    (.seq
    (.seq
    (.region [
    ⟨.mov, [.loc 5], none, none⟩,
    ⟨.mov, [.loc 0], none, none⟩,
    ⟨.len, [.tmp 1], none, none⟩,
    ⟨.bin .lss, [.tmp 0, .tmp 2], none, none⟩,
    ⟨.mov, [.tmp 3], none, none⟩,
    ⟨.mov, [.loc 5], none, some (4, true)⟩,
    ⟨.faddr 0, [.loc 4], none, some (4, true)⟩,
    ⟨.load none, [.tmp 6], none, some (4, true)⟩,
    ⟨.len, [.tmp 7], none, some (4, true)⟩,
    ⟨.bin .lss, [.tmp 5, .tmp 8], none, some (4, true)⟩,
    ⟨.pick, [.tmp 4, .tmp 9, .c (.bool false)], some 6, none⟩])
    (.cond (.loc 6)
      .skip
      (.exit 0)))
    (.seq
    (.block 1
    (.seq
    (.region [
    ⟨.mov, [.loc 3], none, none⟩,
    ⟨.mov, [.loc 5], none, none⟩,
    ⟨.mov, [.loc 0], none, none⟩,
    ⟨.mov, [.loc 5], none, none⟩,
    ⟨.iaddr 1 none, [.tmp 2, .tmp 3], none, none⟩,
    ⟨.load none, [.tmp 4], none, none⟩,
    ⟨.call 22, [.tmp 0, .tmp 1, .tmp 5], none, none⟩])
    (.region [
    ⟨.load (some 2), [.loc 4], none, none⟩,
    ⟨.mov, [.loc 5], none, none⟩,
    ⟨.mov, [.loc 0], none, none⟩,
    ⟨.mov, [.loc 5], none, none⟩,
    ⟨.iaddr 1 none, [.tmp 2, .tmp 3], none, none⟩,
    ⟨.load none, [.tmp 4], none, none⟩,
    ⟨.call 65, [.tmp 0, .tmp 1, .tmp 5], none, none⟩,
    ⟨.store 2, [.loc 4, .tmp 6], none, none⟩])))
    (.region [
    ⟨.mov, [.loc 5], none, none⟩,
    ⟨.bin .add, [.tmp 0, .c (.int .i64 1)], none, none⟩,
    ⟨.mov, [.tmp 1], some 5, none⟩]))))))
    (.seq
    (.region [
    ⟨.mov, [.loc 3], none, none⟩,
    ⟨.load (some 2), [.loc 4], none, none⟩,
    ⟨.mov, [.tmp 0], some 1, none⟩,
    ⟨.store 2, [.loc 2, .tmp 1], none, none⟩])
    .ret)))) }
def docs_Filled : AFn := { nloc := 13, npar := 2, res := [.loc 3], body :=
    (.seq
    (.region [
    ⟨.box, [.loc 0], some 2, none⟩,
    ⟨.mov, [.c (.nils)], some 3, none⟩])
    (.seq
    (.region [
    ⟨.load (some 6), [.loc 2], none, none⟩,
    ⟨.call 156, [.tmp 0], none, none⟩,
    ⟨.make 1 8 [.int .u64 0], [.tmp 1, .tmp 1], none, none⟩,
    ⟨.mov, [.tmp 2], some 4, none⟩])
    (.seq
    (.seq
    (.region [
    ⟨.mov, [.c (.int .i64 0)], some 5, none⟩])
    (.block 0
    (.loop
    (.seq
    (.seq
    (.region [
    ⟨.mov, [.loc 5], none, none⟩,
    ⟨.faddr 0, [.loc 2], none, none⟩,
    ⟨.load none, [.tmp 1], none, none⟩,
    ⟨.bin .lss, [.tmp 0, .tmp 2], none, none⟩,
    ⟨.mov, [.tmp 3], none, none⟩,
    ⟨.load (some 6), [.loc 2], none, some (4, true)⟩,
    ⟨.call 157, [.tmp 5], none, some (4, true)⟩,
    ⟨.pick, [.tmp 4, .tmp 6, .c (.bool false)], some 9, none⟩])
    (.cond (.loc 9)
      .skip
      (.exit 0)))
    (.seq
    (.block 1
    (.seq
    (.region [
    ⟨.mov, [.loc 1], none, none⟩,
    ⟨.mov, [.loc 5], none, none⟩,
    ⟨.bin .mul, [.c (.int .i64 4), .tmp 1], none, none⟩,
    ⟨.call 158, [.tmp 0, .tmp 2], none, none⟩,
    ⟨.bin .rem, [.tmp 3, .c (.int .i64 7)], none, none⟩,
    ⟨.conv .u32, [.tmp 4], none, none⟩,
    ⟨.mov, [.tmp 5], some 6, none⟩])
    (.seq
    (.seq
    (.region [
    ⟨.mov, [.loc 1], none, none⟩,
    ⟨.mov, [.loc 5], none, none⟩,
    ⟨.bin .mul, [.c (.int .i64 4), .tmp 1], none, none⟩,
    ⟨.call 158, [.tmp 0, .tmp 2], none, none⟩,
    ⟨.bin .rem, [.tmp 3, .c (.int .i64 5)], none, none⟩,
    ⟨.bin .eql, [.tmp 4, .c (.int .i64 0)], some 10, none⟩])
    (.cond (.loc 10)
      (.region [
    ⟨.mov, [.loc 6], none, none⟩,
    ⟨.neg, [.tmp 0], none, none⟩,
    ⟨.bin .sub, [.tmp 1, .c (.int .u32 1)], none, none⟩,
    ⟨.mov, [.tmp 2], some 6, none⟩])
      .skip))
    (.seq
    (.draw [0, 1, 2, 3, 4, 5, 6, 7, 8, 9, 10] 0 [
    ⟨.mov, [.loc 1], none, none⟩,
    ⟨.mov, [.loc 5], none, none⟩,
    ⟨.bin .mul, [.c (.int .i64 4), .tmp 1], none, none⟩,
    ⟨.bin .add, [.tmp 2, .c (.int .i64 1)], none, none⟩,
    ⟨.call 158, [.tmp 0, .tmp 3], none, none⟩,
    ⟨.faddr 1, [.loc 2], none, none⟩,
    ⟨.load none, [.tmp 5], none, none⟩,
    ⟨.bin .add, [.tmp 6, .c (.int .i64 1)], none, none⟩,
    ⟨.bin .rem, [.tmp 4, .tmp 7], none, none⟩,
    ⟨.conv .u32, [.tmp 8], none, none⟩,
    ⟨.mov, [.tmp 9], some 7, none⟩] [(6, [0])])
    (.seq
    (.region [
    ⟨.mov, [.loc 4], none, none⟩,
    ⟨.load (some 6), [.loc 2], none, none⟩,
    ⟨.mov, [.loc 5], none, none⟩,
    ⟨.call 159, [.tmp 1, .tmp 2], none, none⟩,
    ⟨.mov, [.loc 6], none, none⟩,
    ⟨.conv .u64, [.tmp 4], none, none⟩,
    ⟨.shf .shl, [.tmp 5, .c (.int .u64 32)], none, none⟩,
    ⟨.mov, [.loc 6], none, none⟩,
    ⟨.mov, [.loc 7], none, none⟩,
    ⟨.bin .add, [.tmp 7, .tmp 8], none, none⟩,
    ⟨.conv .u64, [.tmp 9], none, none⟩,
    ⟨.bin .or, [.tmp 6, .tmp 10], none, none⟩,
    ⟨.iaddr 1 none, [.tmp 0, .tmp 3], none, none⟩,
    ⟨.store 1, [.tmp 12, .tmp 11], none, none⟩])
    (.seq
    (.seq
    (.region [
    ⟨.mov, [.c (.int .u32 0)], some 8, none⟩])
    (.block 2
    (.loop
    (.seq
    (.seq
    (.region [
    ⟨.mov, [.loc 8], none, none⟩,
    ⟨.mov, [.loc 7], none, none⟩,
    ⟨.bin .lss, [.tmp 0, .tmp 1], some 11, none⟩])
    (.cond (.loc 11)
      .skip
      (.exit 2)))
    (.seq
    (.block 3
    (.region [
    ⟨.mov, [.loc 4], none, none⟩,
    ⟨.load (some 6), [.loc 2], none, none⟩,
    ⟨.mov, [.loc 5], none, none⟩,
    ⟨.mov, [.loc 6], none, none⟩,
    ⟨.mov, [.loc 8], none, none⟩,
    ⟨.bin .add, [.tmp 3, .tmp 4], none, none⟩,
    ⟨.call 160, [.tmp 1, .tmp 2, .tmp 5], none, none⟩,
    ⟨.mov, [.loc 5], none, none⟩,
    ⟨.bin .mul, [.tmp 7, .c (.int .i64 100)], none, none⟩,
    ⟨.conv .u64, [.tmp 8], none, none⟩,
    ⟨.mov, [.loc 8], none, none⟩,
    ⟨.conv .u64, [.tmp 10], none, none⟩,
    ⟨.bin .add, [.tmp 9, .tmp 11], none, none⟩,
    ⟨.iaddr 1 none, [.tmp 0, .tmp 6], none, none⟩,
    ⟨.store 1, [.tmp 13, .tmp 12], none, none⟩]))
    (.region [
    ⟨.mov, [.loc 8], none, none⟩,
    ⟨.bin .add, [.tmp 0, .c (.int .u32 1)], none, none⟩,
    ⟨.mov, [.tmp 1], some 8, none⟩]))))))
    (.seq
    (.seq
    (.region [
    ⟨.mov, [.loc 1], none, none⟩,
    ⟨.mov, [.loc 5], none, none⟩,
    ⟨.bin .mul, [.c (.int .i64 4), .tmp 1], none, none⟩,
    ⟨.bin .add, [.tmp 2, .c (.int .i64 2)], none, none⟩,
    ⟨.call 158, [.tmp 0, .tmp 3], none, none⟩,
    ⟨.bin .rem, [.tmp 4, .c (.int .i64 3)], none, none⟩,
    ⟨.bin .eql, [.tmp 5, .c (.int .i64 0)], some 12, none⟩])
    (.cond (.loc 12)
      (.region [
    ⟨.mov, [.loc 4], none, none⟩,
    ⟨.load (some 6), [.loc 2], none, none⟩,
    ⟨.mov, [.loc 5], none, none⟩,
    ⟨.call 161, [.tmp 1, .tmp 2], none, none⟩,
    ⟨.mov, [.loc 5], none, none⟩,
    ⟨.bin .mul, [.tmp 4, .c (.int .i64 100)], none, none⟩,
    ⟨.conv .u64, [.tmp 5], none, none⟩,
    ⟨.bin .add, [.tmp 6, .c (.int .u64 91)], none, none⟩,
    ⟨.iaddr 1 none, [.tmp 0, .tmp 3], none, none⟩,
    ⟨.store 1, [.tmp 8, .tmp 7], none, none⟩])
      .skip))
    (.seq
    (.region [
    ⟨.mov, [.loc 4], none, none⟩,
    ⟨.load (some 6), [.loc 2], none, none⟩,
    ⟨.mov, [.loc 5], none, none⟩,
    ⟨.call 162, [.tmp 1, .tmp 2], none, none⟩,
    ⟨.mov, [.loc 1], none, none⟩,
    ⟨.mov, [.loc 5], none, none⟩,
    ⟨.bin .mul, [.c (.int .i64 4), .tmp 5], none, none⟩,
    ⟨.bin .add, [.tmp 6, .c (.int .i64 2)], none, none⟩,
    ⟨.call 158, [.tmp 4, .tmp 7], none, none⟩,
    ⟨.bin .quo, [.tmp 8, .c (.int .i64 3)], none, none⟩,
    ⟨.bin .rem, [.tmp 9, .c (.int .i64 3)], none, none⟩,
    ⟨.conv .u64, [.tmp 10], none, none⟩,
    ⟨.iaddr 1 none, [.tmp 0, .tmp 3], none, none⟩,
    ⟨.store 1, [.tmp 12, .tmp 11], none, none⟩])
    (.seq
    (.region [
    ⟨.mov, [.loc 4], none, none⟩,
    ⟨.load (some 6), [.loc 2], none, none⟩,
    ⟨.mov, [.loc 5], none, none⟩,
    ⟨.call 163, [.tmp 1, .tmp 2], none, none⟩,
    ⟨.mov, [.loc 1], none, none⟩,
    ⟨.mov, [.loc 5], none, none⟩,
    ⟨.bin .mul, [.c (.int .i64 4), .tmp 5], none, none⟩,
    ⟨.bin .add, [.tmp 6, .c (.int .i64 3)], none, none⟩,
    ⟨.call 158, [.tmp 4, .tmp 7], none, none⟩,
    ⟨.bin .rem, [.tmp 8, .c (.int .i64 9)], none, none⟩,
    ⟨.conv .u64, [.tmp 9], none, none⟩,
    ⟨.iaddr 1 none, [.tmp 0, .tmp 3], none, none⟩,
    ⟨.store 1, [.tmp 11, .tmp 10], none, none⟩])
    (.seq
    (.region [
    ⟨.mov, [.loc 4], none, none⟩,
    ⟨.load (some 6), [.loc 2], none, none⟩,
    ⟨.mov, [.loc 5], none, none⟩,
    ⟨.call 164, [.tmp 1, .tmp 2], none, none⟩,
    ⟨.mov, [.loc 1], none, none⟩,
    ⟨.mov, [.loc 5], none, none⟩,
    ⟨.bin .mul, [.c (.int .i64 4), .tmp 5], none, none⟩,
    ⟨.bin .add, [.tmp 6, .c (.int .i64 3)], none, none⟩,
    ⟨.call 158, [.tmp 4, .tmp 7], none, none⟩,
    ⟨.bin .quo, [.tmp 8, .c (.int .i64 9)], none, none⟩,
    ⟨.bin .rem, [.tmp 9, .c (.int .i64 4)], none, none⟩,
    ⟨.conv .u64, [.tmp 10], none, none⟩,
    ⟨.iaddr 1 none, [.tmp 0, .tmp 3], none, none⟩,
    ⟨.store 1, [.tmp 12, .tmp 11], none, none⟩])
    (.region [
    ⟨.mov, [.loc 4], none, none⟩,
    ⟨.load (some 6), [.loc 2], none, none⟩,
    ⟨.mov, [.loc 5], none, none⟩,
    ⟨.call 165, [.tmp 1, .tmp 2], none, none⟩,
    ⟨.mov, [.loc 1], none, none⟩,
    ⟨.mov, [.loc 5], none, none⟩,
    ⟨.bin .mul, [.c (.int .i64 4), .tmp 5], none, none⟩,
    ⟨.bin .add, [.tmp 6, .c (.int .i64 3)], none, none⟩,
    ⟨.call 158, [.tmp 4, .tmp 7], none, none⟩,
    ⟨.bin .quo, [.tmp 8, .c (.int .i64 36)], none, none⟩,
    ⟨.bin .rem, [.tmp 9, .c (.int .i64 2)], none, none⟩,
    ⟨.conv .u64, [.tmp 10], none, none⟩,
    ⟨.iaddr 1 none, [.tmp 0, .tmp 3], none, none⟩,
    ⟨.store 1, [.tmp 12, .tmp 11], none, none⟩])))))))))))
    (.region [
    ⟨.mov, [.loc 5], none, none⟩,
    ⟨.bin .add, [.tmp 0, .c (.int .i64 1)], none, none⟩,
    ⟨.mov, [.tmp 1], some 5, none⟩]))))))
    (.seq
    (.region [
    ⟨.mov, [.loc 4], none, none⟩,
    ⟨.mov, [.tmp 0], some 3, none⟩])
    .ret)))) }
def docs_Ring : AFn := { nloc := 15, npar := 3, res := [.loc 4], body :=
    (.seq
    (.region [
    ⟨.box, [.loc 0], some 3, none⟩,
    ⟨.mov, [.c (.nils)], some 4, none⟩])
    (.seq
    (.region [
    ⟨.mov, [.c (.nils)], some 5, none⟩])
    (.seq
    (.region [
    ⟨.mov, [.loc 1], none, none⟩,
    ⟨.call 47, [.tmp 0], none, none⟩,
    ⟨.mov, [.tmp 1], some 6, none⟩])
    (.seq
    (.seq
    (.region [
    ⟨.mov, [.loc 6], none, none⟩,
    ⟨.len, [.tmp 0], none, none⟩,
    ⟨.load (some 6), [.loc 3], none, none⟩,
    ⟨.call 156, [.tmp 2], none, none⟩,
    ⟨.bin .lss, [.tmp 1, .tmp 3], none, none⟩,
    ⟨.mov, [.tmp 4], none, none⟩,
    ⟨.load (some 6), [.loc 3], none, some (5, false)⟩,
    ⟨.mov, [.loc 2], none, some (5, false)⟩,
    ⟨.call 159, [.tmp 6, .tmp 7], none, some (5, false)⟩,
    ⟨.bin .lss, [.tmp 8, .c (.int .i64 0)], none, some (5, false)⟩,
    ⟨.pick, [.tmp 5, .c (.bool true), .tmp 9], none, none⟩,
    ⟨.mov, [.tmp 10], none, none⟩,
    ⟨.load (some 6), [.loc 3], none, some (11, false)⟩,
    ⟨.mov, [.loc 2], none, some (11, false)⟩,
    ⟨.call 159, [.tmp 12, .tmp 13], none, some (11, false)⟩,
    ⟨.mov, [.loc 6], none, some (11, false)⟩,
    ⟨.len, [.tmp 15], none, some (11, false)⟩,
    ⟨.bin .geq, [.tmp 14, .tmp 16], none, some (11, false)⟩,
    ⟨.pick, [.tmp 11, .c (.bool true), .tmp 17], some 12, none⟩])
    (.cond (.loc 12)
      (.seq
      (.region [
    ⟨.mov, [.c (.nils)], some 4, none⟩])
      .ret)
      .skip))
    (.seq
    (.region [
    ⟨.mov, [.loc 6], none, none⟩,
    ⟨.load (some 6), [.loc 3], none, none⟩,
    ⟨.mov, [.loc 2], none, none⟩,
    ⟨.call 159, [.tmp 1, .tmp 2], none, none⟩,
    ⟨.iaddr 1 none, [.tmp 0, .tmp 3], none, none⟩,
    ⟨.load none, [.tmp 4], none, none⟩,
    ⟨.mov, [.tmp 5], some 7, none⟩])
    (.seq
    (.region [
    ⟨.mov, [.loc 7], none, none⟩,
    ⟨.shf .shr, [.tmp 0, .c (.int .u64 32)], none, none⟩,
    ⟨.conv .u32, [.tmp 1], none, none⟩,
    ⟨.mov, [.loc 7], none, none⟩,
    ⟨.conv .u32, [.tmp 3], none, none⟩,
    ⟨.mov, [.tmp 2], some 8, none⟩,
    ⟨.mov, [.tmp 4], some 9, none⟩])
    (.seq
    (.seq
    (.region [
    ⟨.mov, [.c (.int .u32 0)], some 10, none⟩])
    (.block 0
    (.loop
    (.seq
    (.seq
    (.region [
    ⟨.mov, [.loc 10], none, none⟩,
    ⟨.mov, [.loc 9], none, none⟩,
    ⟨.mov, [.loc 8], none, none⟩,
    ⟨.bin .sub, [.tmp 1, .tmp 2], none, none⟩,
    ⟨.bin .lss, [.tmp 0, .tmp 3], none, none⟩,
    ⟨.mov, [.tmp 4], none, none⟩,
    ⟨.mov, [.loc 9], none, some (5, true)⟩,
    ⟨.mov, [.loc 8], none, some (5, true)⟩,
    ⟨.bin .sub, [.tmp 6, .tmp 7], none, some (5, true)⟩,
    ⟨.faddr 1, [.loc 3], none, some (5, true)⟩,
    ⟨.load none, [.tmp 9], none, some (5, true)⟩,
    ⟨.conv .u32, [.tmp 10], none, some (5, true)⟩,
    ⟨.bin .leq, [.tmp 8, .tmp 11], none, some (5, true)⟩,
    ⟨.pick, [.tmp 5, .tmp 12, .c (.bool false)], some 13, none⟩])
    (.cond (.loc 13)
      .skip
      (.exit 0)))
    (.seq
    (.block 1
    (.seq
    (.region [
    ⟨.load (some 6), [.loc 3], none, none⟩,
    ⟨.mov, [.loc 2], none, none⟩,
    ⟨.mov, [.loc 8], none, none⟩,
    ⟨.mov, [.loc 10], none, none⟩,
    ⟨.bin .add, [.tmp 2, .tmp 3], none, none⟩,
    ⟨.call 160, [.tmp 0, .tmp 1, .tmp 4], none, none⟩,
    ⟨.mov, [.tmp 5], some 11, none⟩])
    (.seq
    (.seq
    (.region [
    ⟨.mov, [.loc 11], none, none⟩,
    ⟨.bin .lss, [.tmp 0, .c (.int .i64 0)], none, none⟩,
    ⟨.mov, [.tmp 1], none, none⟩,
    ⟨.mov, [.loc 11], none, some (2, false)⟩,
    ⟨.mov, [.loc 6], none, some (2, false)⟩,
    ⟨.len, [.tmp 4], none, some (2, false)⟩,
    ⟨.bin .geq, [.tmp 3, .tmp 5], none, some (2, false)⟩,
    ⟨.pick, [.tmp 2, .c (.bool true), .tmp 6], some 14, none⟩])
    (.cond (.loc 14)
      (.seq
      (.region [
    ⟨.mov, [.c (.nils)], some 4, none⟩])
      .ret)
      .skip))
    (.region [
    ⟨.mov, [.loc 5], none, none⟩,
    ⟨.mov, [.loc 6], none, none⟩,
    ⟨.mov, [.loc 11], none, none⟩,
    ⟨.iaddr 1 none, [.tmp 1, .tmp 2], none, none⟩,
    ⟨.load none, [.tmp 3], none, none⟩,
    ⟨.conv .i64, [.tmp 4], none, none⟩,
    ⟨.lit 1 1 [.int .i64 0] [(0, 1)], [.tmp 5], none, none⟩,
    ⟨.append 1 8, [.tmp 0, .tmp 6], none, none⟩,
    ⟨.mov, [.tmp 7], some 5, none⟩]))))
    (.region [
    ⟨.mov, [.loc 10], none, none⟩,
    ⟨.bin .add, [.tmp 0, .c (.int .u32 1)], none, none⟩,
    ⟨.mov, [.tmp 1], some 10, none⟩]))))))
    (.seq
    (.region [
    ⟨.mov, [.loc 5], none, none⟩,
    ⟨.mov, [.tmp 0], some 4, none⟩])
    .ret)))))))) }
def docs_Thief : AFn := { nloc := 11, npar := 4, res := [.loc 5], body :=
    (.seq
    (.region [
    ⟨.box, [.loc 0], some 4, none⟩,
    ⟨.mov, [.c (.nils)], some 5, none⟩])
    (.seq
    (.region [
    ⟨.load (some 6), [.loc 4], none, none⟩,
    ⟨.mov, [.loc 1], none, none⟩,
    ⟨.mov, [.loc 2], none, none⟩,
    ⟨.call 136, [.tmp 0, .tmp 1, .tmp 2], none, none⟩,
    ⟨.mov, [.tmp 3], some 6, none⟩])
    (.seq
    (.region [
    ⟨.mov, [.loc 3], none, none⟩,
    ⟨.mov, [.loc 6], none, none⟩,
    ⟨.len, [.tmp 1], none, none⟩,
    ⟨.mov, [.loc 6], none, none⟩,
    ⟨.len, [.tmp 3], none, none⟩,
    ⟨.bin .quo, [.tmp 4, .c (.int .i64 2)], none, none⟩,
    ⟨.bin .sub, [.tmp 2, .tmp 5], none, none⟩,
    ⟨.min, [.tmp 0, .tmp 6], none, none⟩,
    ⟨.mov, [.tmp 7], some 7, none⟩])
    (.seq
    (.seq
    (.region [
    ⟨.mov, [.loc 7], none, none⟩,
    ⟨.bin .leq, [.tmp 0, .c (.int .i64 0)], some 10, none⟩])
    (.cond (.loc 10)
      (.seq
      (.region [
    ⟨.mov, [.c (.nils)], some 5, none⟩])
      .ret)
      .skip))
    (.seq
    (.region [
    ⟨.load (some 6), [.loc 4], none, none⟩,
    ⟨.mov, [.loc 2], none, none⟩,
    ⟨.call 159, [.tmp 0, .tmp 1], none, none⟩,
    ⟨.mov, [.tmp 2], some 8, none⟩])
    (.seq
    (.region [
    ⟨.mov, [.loc 1], none, none⟩,
    ⟨.mov, [.loc 8], none, none⟩,
    ⟨.call 24, [.tmp 0, .tmp 1], none, none⟩,
    ⟨.mov, [.tmp 2], some 9, none⟩])
    (.seq
    (.region [
    ⟨.mov, [.loc 1], none, none⟩,
    ⟨.mov, [.loc 8], none, none⟩,
    ⟨.mov, [.loc 9], none, none⟩,
    ⟨.shf .shr, [.tmp 2, .c (.int .u64 32)], none, none⟩,
    ⟨.conv .u32, [.tmp 3], none, none⟩,
    ⟨.mov, [.loc 7], none, none⟩,
    ⟨.conv .u32, [.tmp 5], none, none⟩,
    ⟨.bin .add, [.tmp 4, .tmp 6], none, none⟩,
    ⟨.conv .u64, [.tmp 7], none, none⟩,
    ⟨.shf .shl, [.tmp 8, .c (.int .u64 32)], none, none⟩,
    ⟨.mov, [.loc 9], none, none⟩,
    ⟨.conv .u32, [.tmp 10], none, none⟩,
    ⟨.conv .u64, [.tmp 11], none, none⟩,
    ⟨.bin .or, [.tmp 9, .tmp 12], none, none⟩,
    ⟨.call 22, [.tmp 0, .tmp 1, .tmp 13], none, none⟩])
    (.seq
    (.region [
    ⟨.mov, [.loc 6], none, none⟩,
    ⟨.mov, [.loc 7], none, none⟩,
    ⟨.slice 1 false true false, [.tmp 0, .tmp 1], none, none⟩,
    ⟨.mov, [.tmp 2], some 5, none⟩])
    .ret)))))))) }
def kit_SameInts : AFn := { nloc := 7, npar := 2, res := [.loc 2], body :=
    (.seq
    (.region [
    ⟨.mov, [.c (.bool false)], some 2, none⟩])
    (.seq
    (.seq
    (.region [
    ⟨.mov, [.loc 0], none, none⟩,
    ⟨.len, [.tmp 0], none, none⟩,
    ⟨.mov, [.loc 1], none, none⟩,
    ⟨.len, [.tmp 2], none, none⟩,
    ⟨.bin .neq, [.tmp 1, .tmp 3], some 4, none⟩])
    (.cond (.loc 4)
      (.seq
      (.region [
    ⟨.mov, [.c (.bool false)], some 2, none⟩])
      .ret)
      .skip))
    (.seq
    (.seq
    (.region [
    ⟨.mov, [.c (.int .i64 0)], some 3, none⟩])
    (.block 0
    (.loop
    (.seq
    (.seq
    (.region [
    ⟨.mov, [.loc 3], none, none⟩,
    ⟨.mov, [.loc 0], none, none⟩,
    ⟨.len, [.tmp 1], none, none⟩,
    ⟨.bin .lss, [.tmp 0, .tmp 2], some 5, none⟩])
    (.cond (.loc 5)
      .skip
      (.exit 0)))
    (.seq
    (.block 1
    (.seq
    (.region [
    ⟨.mov, [.loc 0], none, none⟩,
    ⟨.mov, [.loc 3], none, none⟩,
    ⟨.iaddr 1 none, [.tmp 0, .tmp 1], none, none⟩,
    ⟨.load none, [.tmp 2], none, none⟩,
    ⟨.mov, [.loc 1], none, none⟩,
    ⟨.mov, [.loc 3], none, none⟩,
    ⟨.iaddr 1 none, [.tmp 4, .tmp 5], none, none⟩,
    ⟨.load none, [.tmp 6], none, none⟩,
    ⟨.bin .neq, [.tmp 3, .tmp 7], some 6, none⟩])
    (.cond (.loc 6)
      (.seq
      (.region [
    ⟨.mov, [.c (.bool false)], some 2, none⟩])
      .ret)
      .skip)))
    (.region [
    ⟨.mov, [.loc 3], none, none⟩,
    ⟨.bin .add, [.tmp 0, .c (.int .i64 1)], none, none⟩,
    ⟨.mov, [.tmp 1], some 3, none⟩]))))))
    (.seq
    (.region [
    ⟨.mov, [.c (.bool true)], some 2, none⟩])
    .ret)))) }
def docs_Config : AFn := { nloc := 3, npar := 1, res := [.cell 2 (some 6)], body :=
    (.seq
    (.region [
    ⟨.box, [.loc 0], some 1, none⟩,
    ⟨.alloc [.int .i64 0, .int .i64 0, .int .i64 0, .int .i64 0, .int .i64 0, .int .i64 0], [], some 2, none⟩])
    (.seq
    (.region [
    ⟨.faddr 0, [.loc 1], none, none⟩,
    ⟨.load none, [.tmp 0], none, none⟩,
    ⟨.faddr 1, [.loc 1], none, none⟩,
    ⟨.load none, [.tmp 2], none, none⟩,
    ⟨.faddr 2, [.loc 1], none, none⟩,
    ⟨.load none, [.tmp 4], none, none⟩,
    ⟨.faddr 3, [.loc 1], none, none⟩,
    ⟨.load none, [.tmp 6], none, none⟩,
    ⟨.faddr 4, [.loc 1], none, none⟩,
    ⟨.load none, [.tmp 8], none, none⟩,
    ⟨.faddr 5, [.loc 1], none, none⟩,
    ⟨.load none, [.tmp 10], none, none⟩,
    ⟨.build [.int .i64 0, .int .i64 0, .int .i64 0, .int .i64 0, .int .i64 0, .int .i64 0] [(0, 1), (1, 1), (2, 1), (3, 1), (4, 1), (5, 1)], [.tmp 1, .tmp 3, .tmp 5, .tmp 7, .tmp 9, .tmp 11], none, none⟩,
    ⟨.store 6, [.loc 2, .tmp 12], none, none⟩])
    .ret)) }
def docs_SameMem : AFn := { nloc := 4, npar := 2, res := [.loc 3], body :=
    (.seq
    (.region [
    ⟨.box, [.loc 1], some 2, none⟩,
    ⟨.mov, [.c (.bool false)], some 3, none⟩])
    (.seq
    (.draw [0, 1, 2, 3, 4, 5, 6, 7, 8, 9, 10, 11, 12, 13, 14, 15, 16, 17, 18, 19, 20] 0 [
    ⟨.mov, [.loc 0], none, none⟩,
    ⟨.call 34, [.tmp 0], none, none⟩,
    ⟨.faddr 0, [.loc 2], none, none⟩,
    ⟨.load none, [.tmp 2], none, none⟩,
    ⟨.len, [.tmp 3], none, none⟩,
    ⟨.bin .eql, [.tmp 1, .tmp 4], none, none⟩,
    ⟨.mov, [.tmp 5], none, none⟩,
    ⟨.mov, [.loc 0], none, some (6, true)⟩,
    ⟨.call 46, [.tmp 7], none, some (6, true)⟩,
    ⟨.faddr 1, [.loc 2], none, some (6, true)⟩,
    ⟨.load none, [.tmp 9], none, some (6, true)⟩,
    ⟨.bin .eql, [.tmp 8, .tmp 10], none, some (6, true)⟩,
    ⟨.pick, [.tmp 6, .tmp 11, .c (.bool false)], none, none⟩,
    ⟨.mov, [.tmp 12], none, none⟩,
    ⟨.mov, [.loc 0], none, some (13, true)⟩,
    ⟨.call 47, [.tmp 14], none, some (13, true)⟩,
    ⟨.faddr 0, [.loc 2], none, some (13, true)⟩,
    ⟨.load none, [.tmp 16], none, some (13, true)⟩,
    ⟨.call 58, [.tmp 15, .tmp 17], none, some (13, true)⟩,
    ⟨.pick, [.tmp 13, .tmp 18, .c (.bool false)], none, none⟩,
    ⟨.mov, [.tmp 19], some 3, none⟩] [(3, [0]), (10, [2]), (17, [9])])
    .ret)) }
def ref06_Store : AFn := { nloc := 6, npar := 3, res := [.cell 4 (some 2)], body :=
    (.seq
    (.region [
    ⟨.box, [.loc 0], some 3, none⟩,
    ⟨.alloc [.nils, .int .u64 0], [], some 4, none⟩])
    (.seq
    (.seq
    (.region [
    ⟨.load (some 2), [.loc 3], none, none⟩,
    ⟨.mov, [.loc 1], none, none⟩,
    ⟨.call 72, [.tmp 0, .tmp 1], none, none⟩,
    ⟨.not, [.tmp 2], some 5, none⟩])
    (.cond (.loc 5)
      (.seq
      (.region [
    ⟨.load (some 2), [.loc 3], none, none⟩,
    ⟨.store 2, [.loc 4, .tmp 0], none, none⟩])
      .ret)
      .skip))
    (.seq
    (.region [
    ⟨.load (some 2), [.loc 3], none, none⟩,
    ⟨.mov, [.loc 1], none, none⟩,
    ⟨.mov, [.loc 2], none, none⟩,
    ⟨.call 73, [.tmp 0, .tmp 1, .tmp 2], none, none⟩,
    ⟨.store 2, [.loc 4, .tmp 3], none, none⟩])
    .ret))) }
def ref06_New : AFn := { nloc := 2, npar := 1, res := [.cell 1 (some 2)], body :=
    (.seq
    (.region [
    ⟨.alloc [.nils, .int .u64 0], [], some 1, none⟩])
    (.seq
    (.region [
    ⟨.mov, [.loc 0], none, none⟩,
    ⟨.min, [.tmp 0, .c (.int .i64 65536)], none, none⟩,
    ⟨.max, [.c (.int .i64 0), .tmp 1], none, none⟩,
    ⟨.make 1 8 [.int .u64 0], [.tmp 2, .tmp 2], none, none⟩,
    ⟨.build [.nils, .int .u64 0] [(0, 1)], [.tmp 3], none, none⟩,
    ⟨.store 2, [.loc 1, .tmp 4], none, none⟩])
    .ret)) }
def conf_Config_Cells : AFn := { nloc := 4, npar := 1, res := [.loc 2], body :=
    (.seq
    (.region [
    ⟨.box, [.loc 0], some 1, none⟩,
    ⟨.mov, [.c (.int .i64 0)], some 2, none⟩])
    (.seq
    (.seq
    (.region [
    ⟨.load (some 6), [.loc 1], none, none⟩,
    ⟨.call 157, [.tmp 0], none, none⟩,
    ⟨.not, [.tmp 1], some 3, none⟩])
    (.cond (.loc 3)
      (.seq
      (.region [
    ⟨.mov, [.c (.int .i64 0)], some 2, none⟩])
      .ret)
      .skip))
    (.seq
    (.region [
    ⟨.faddr 0, [.loc 1], none, none⟩,
    ⟨.load none, [.tmp 0], none, none⟩,
    ⟨.faddr 1, [.loc 1], none, none⟩,
    ⟨.load none, [.tmp 2], none, none⟩,
    ⟨.bin .add, [.c (.int .i64 6), .tmp 3], none, none⟩,
    ⟨.bin .mul, [.tmp 1, .tmp 4], none, none⟩,
    ⟨.bin .add, [.c (.int .i64 4), .tmp 5], none, none⟩,
    ⟨.mov, [.tmp 6], some 2, none⟩])
    .ret))) }
def conf_Config_Right : AFn := { nloc := 3, npar := 1, res := [.loc 2], body :=
    (.seq
    (.region [
    ⟨.box, [.loc 0], some 1, none⟩,
    ⟨.mov, [.c (.bool false)], some 2, none⟩])
    (.seq
    (.region [
    ⟨.faddr 0, [.loc 1], none, none⟩,
    ⟨.load none, [.tmp 0], none, none⟩,
    ⟨.call 176, [.tmp 1, .c (.int .i64 1), .c (.int .i64 8)], none, none⟩,
    ⟨.mov, [.tmp 2], none, none⟩,
    ⟨.faddr 1, [.loc 1], none, some (3, true)⟩,
    ⟨.load none, [.tmp 4], none, some (3, true)⟩,
    ⟨.call 176, [.tmp 5, .c (.int .i64 2), .c (.int .i64 64)], none, some (3, true)⟩,
    ⟨.pick, [.tmp 3, .tmp 6, .c (.bool false)], none, none⟩,
    ⟨.mov, [.tmp 7], none, none⟩,
    ⟨.faddr 1, [.loc 1], none, some (8, true)⟩,
    ⟨.load none, [.tmp 9], none, some (8, true)⟩,
    ⟨.faddr 1, [.loc 1], none, some (8, true)⟩,
    ⟨.load none, [.tmp 11], none, some (8, true)⟩,
    ⟨.bin .sub, [.tmp 12, .c (.int .i64 1)], none, some (8, true)⟩,
    ⟨.bin .and, [.tmp 10, .tmp 13], none, some (8, true)⟩,
    ⟨.bin .eql, [.tmp 14, .c (.int .i64 0)], none, some (8, true)⟩,
    ⟨.pick, [.tmp 8, .tmp 15, .c (.bool false)], none, none⟩,
    ⟨.mov, [.tmp 16], none, none⟩,
    ⟨.faddr 2, [.loc 1], none, some (17, true)⟩,
    ⟨.load none, [.tmp 18], none, some (17, true)⟩,
    ⟨.call 176, [.tmp 19, .c (.int .i64 1), .c (.int .i64 256)], none, some (17, true)⟩,
    ⟨.pick, [.tmp 17, .tmp 20, .c (.bool false)], none, none⟩,
    ⟨.mov, [.tmp 21], none, none⟩,
    ⟨.faddr 3, [.loc 1], none, some (22, true)⟩,
    ⟨.load none, [.tmp 23], none, some (22, true)⟩,
    ⟨.faddr 0, [.loc 1], none, some (22, true)⟩,
    ⟨.load none, [.tmp 25], none, some (22, true)⟩,
    ⟨.bin .add, [.tmp 26, .c (.int .i64 1)], none, some (22, true)⟩,
    ⟨.call 176, [.tmp 24, .tmp 27, .c (.int .i64 16)], none, some (22, true)⟩,
    ⟨.pick, [.tmp 22, .tmp 28, .c (.bool false)], none, none⟩,
    ⟨.mov, [.tmp 29], none, none⟩,
    ⟨.faddr 4, [.loc 1], none, some (30, true)⟩,
    ⟨.load none, [.tmp 31], none, some (30, true)⟩,
    ⟨.call 176, [.tmp 32, .c (.int .i64 2), .c (.int .i64 200)], none, some (30, true)⟩,
    ⟨.pick, [.tmp 30, .tmp 33, .c (.bool false)], none, none⟩,
    ⟨.mov, [.tmp 34], none, none⟩,
    ⟨.faddr 5, [.loc 1], none, some (35, true)⟩,
    ⟨.load none, [.tmp 36], none, some (35, true)⟩,
    ⟨.call 176, [.tmp 37, .c (.int .i64 0), .c (.int .i64 1000)], none, some (35, true)⟩,
    ⟨.pick, [.tmp 35, .tmp 38, .c (.bool false)], none, none⟩,
    ⟨.mov, [.tmp 39], some 2, none⟩])
    .ret)) }
def docs_byteAt : AFn := { nloc := 4, npar := 2, res := [.loc 2], body :=
    (.seq
    (.region [
    ⟨.mov, [.c (.int .i64 0)], some 2, none⟩])
    (.seq
    (.seq
    (.region [
    ⟨.mov, [.loc 1], none, none⟩,
    ⟨.mov, [.loc 0], none, none⟩,
    ⟨.len, [.tmp 1], none, none⟩,
    ⟨.bin .geq, [.tmp 0, .tmp 2], some 3, none⟩])
    (.cond (.loc 3)
      (.seq
      (.region [
    ⟨.mov, [.c (.int .i64 0)], some 2, none⟩])
      .ret)
      .skip))
    (.seq
    (.region [
    ⟨.mov, [.loc 0], none, none⟩,
    ⟨.mov, [.loc 1], none, none⟩,
    ⟨.iaddr 1 none, [.tmp 0, .tmp 1], none, none⟩,
    ⟨.load none, [.tmp 2], none, none⟩,
    ⟨.conv .i64, [.tmp 3], none, none⟩,
    ⟨.mov, [.tmp 4], some 2, none⟩])
    .ret))) }
def conf_Config_Word : AFn := { nloc := 4, npar := 2, res := [.loc 3], body :=
    (.seq
    (.region [
    ⟨.box, [.loc 0], some 2, none⟩,
    ⟨.mov, [.c (.int .i64 0)], some 3, none⟩])
    (.seq
    (.region [
    ⟨.load (some 6), [.loc 2], none, none⟩,
    ⟨.mov, [.loc 1], none, none⟩,
    ⟨.build [.int .i64 0, .int .i64 0, .int .i64 0, .int .i64 0, .int .i64 0, .int .i64 0, .int .i64 0] [(0, 6), (6, 1)], [.tmp 0, .tmp 1], none, none⟩,
    ⟨.call 177, [.tmp 2, .c (.int .i64 0)], none, none⟩,
    ⟨.mov, [.tmp 3], some 3, none⟩])
    .ret)) }
def conf_Config_Slot : AFn := { nloc := 6, npar := 3, res := [.loc 4], body :=
    (.seq
    (.region [
    ⟨.box, [.loc 0], some 3, none⟩,
    ⟨.mov, [.c (.int .i64 0)], some 4, none⟩])
    (.seq
    (.seq
    (.region [
    ⟨.load (some 6), [.loc 3], none, none⟩,
    ⟨.call 157, [.tmp 0], none, none⟩,
    ⟨.not, [.tmp 1], some 5, none⟩])
    (.cond (.loc 5)
      (.seq
      (.region [
    ⟨.mov, [.c (.int .i64 (-1))], some 4, none⟩])
      .ret)
      .skip))
    (.seq
    (.region [
    ⟨.load (some 6), [.loc 3], none, none⟩,
    ⟨.mov, [.loc 1], none, none⟩,
    ⟨.build [.int .i64 0, .int .i64 0, .int .i64 0, .int .i64 0, .int .i64 0, .int .i64 0, .int .i64 0] [(0, 6), (6, 1)], [.tmp 0, .tmp 1], none, none⟩,
    ⟨.mov, [.loc 2], none, none⟩,
    ⟨.faddr 1, [.loc 3], none, none⟩,
    ⟨.load none, [.tmp 4], none, none⟩,
    ⟨.conv .u32, [.tmp 5], none, none⟩,
    ⟨.bin .rem, [.tmp 3, .tmp 6], none, none⟩,
    ⟨.conv .i64, [.tmp 7], none, none⟩,
    ⟨.bin .add, [.c (.int .i64 6), .tmp 8], none, none⟩,
    ⟨.call 177, [.tmp 2, .tmp 9], none, none⟩,
    ⟨.mov, [.tmp 10], some 4, none⟩])
    .ret))) }
def conf_Config_Next : AFn := { nloc := 4, npar := 2, res := [.loc 3], body :=
    (.seq
    (.region [
    ⟨.box, [.loc 0], some 2, none⟩,
    ⟨.mov, [.c (.int .i64 0)], some 3, none⟩])
    (.seq
    (.region [
    ⟨.load (some 6), [.loc 2], none, none⟩,
    ⟨.mov, [.loc 1], none, none⟩,
    ⟨.build [.int .i64 0, .int .i64 0, .int .i64 0, .int .i64 0, .int .i64 0, .int .i64 0, .int .i64 0] [(0, 6), (6, 1)], [.tmp 0, .tmp 1], none, none⟩,
    ⟨.call 177, [.tmp 2, .c (.int .i64 1)], none, none⟩,
    ⟨.mov, [.tmp 3], some 3, none⟩])
    .ret)) }
def conf_Config_Stat : AFn := { nloc := 4, npar := 2, res := [.loc 3], body :=
    (.seq
    (.region [
    ⟨.box, [.loc 0], some 2, none⟩,
    ⟨.mov, [.c (.int .i64 0)], some 3, none⟩])
    (.seq
    (.region [
    ⟨.load (some 6), [.loc 2], none, none⟩,
    ⟨.mov, [.loc 1], none, none⟩,
    ⟨.build [.int .i64 0, .int .i64 0, .int .i64 0, .int .i64 0, .int .i64 0, .int .i64 0, .int .i64 0] [(0, 6), (6, 1)], [.tmp 0, .tmp 1], none, none⟩,
    ⟨.call 177, [.tmp 2, .c (.int .i64 2)], none, none⟩,
    ⟨.mov, [.tmp 3], some 3, none⟩])
    .ret)) }
def conf_Config_Tick : AFn := { nloc := 4, npar := 2, res := [.loc 3], body :=
    (.seq
    (.region [
    ⟨.box, [.loc 0], some 2, none⟩,
    ⟨.mov, [.c (.int .i64 0)], some 3, none⟩])
    (.seq
    (.region [
    ⟨.load (some 6), [.loc 2], none, none⟩,
    ⟨.mov, [.loc 1], none, none⟩,
    ⟨.build [.int .i64 0, .int .i64 0, .int .i64 0, .int .i64 0, .int .i64 0, .int .i64 0, .int .i64 0] [(0, 6), (6, 1)], [.tmp 0, .tmp 1], none, none⟩,
    ⟨.call 177, [.tmp 2, .c (.int .i64 3)], none, none⟩,
    ⟨.mov, [.tmp 3], some 3, none⟩])
    .ret)) }
def conf_Config_Sys : AFn := { nloc := 4, npar := 2, res := [.loc 3], body :=
    (.seq
    (.region [
    ⟨.box, [.loc 0], some 2, none⟩,
    ⟨.mov, [.c (.int .i64 0)], some 3, none⟩])
    (.seq
    (.region [
    ⟨.load (some 6), [.loc 2], none, none⟩,
    ⟨.mov, [.loc 1], none, none⟩,
    ⟨.build [.int .i64 0, .int .i64 0, .int .i64 0, .int .i64 0, .int .i64 0, .int .i64 0, .int .i64 0] [(0, 6), (6, 1)], [.tmp 0, .tmp 1], none, none⟩,
    ⟨.call 177, [.tmp 2, .c (.int .i64 4)], none, none⟩,
    ⟨.mov, [.tmp 3], some 3, none⟩])
    .ret)) }
def conf_Config_Flag : AFn := { nloc := 4, npar := 2, res := [.loc 3], body :=
    (.seq
    (.region [
    ⟨.box, [.loc 0], some 2, none⟩,
    ⟨.mov, [.c (.int .i64 0)], some 3, none⟩])
    (.seq
    (.region [
    ⟨.load (some 6), [.loc 2], none, none⟩,
    ⟨.mov, [.loc 1], none, none⟩,
    ⟨.build [.int .i64 0, .int .i64 0, .int .i64 0, .int .i64 0, .int .i64 0, .int .i64 0, .int .i64 0] [(0, 6), (6, 1)], [.tmp 0, .tmp 1], none, none⟩,
    ⟨.call 177, [.tmp 2, .c (.int .i64 5)], none, none⟩,
    ⟨.mov, [.tmp 3], some 3, none⟩])
    .ret)) }
def ref09_There : AFn := { nloc := 4, npar := 2, res := [.loc 3], body :=
    (.seq
    (.region [
    ⟨.box, [.loc 0], some 2, none⟩,
    ⟨.mov, [.c (.bool false)], some 3, none⟩])
    (.seq
    (.region [
    ⟨.load (some 6), [.loc 2], none, none⟩,
    ⟨.call 181, [.tmp 0], none, none⟩,
    ⟨.mov, [.tmp 1], none, none⟩,
    ⟨.mov, [.loc 1], none, some (2, true)⟩,
    ⟨.bin .geq, [.tmp 3, .c (.int .i64 0)], none, some (2, true)⟩,
    ⟨.pick, [.tmp 2, .tmp 4, .c (.bool false)], none, none⟩,
    ⟨.mov, [.tmp 5], none, none⟩,
    ⟨.mov, [.loc 1], none, some (6, true)⟩,
    ⟨.faddr 0, [.loc 2], none, some (6, true)⟩,
    ⟨.load none, [.tmp 8], none, some (6, true)⟩,
    ⟨.bin .lss, [.tmp 7, .tmp 9], none, some (6, true)⟩,
    ⟨.pick, [.tmp 6, .tmp 10, .c (.bool false)], none, none⟩,
    ⟨.mov, [.tmp 11], some 3, none⟩])
    .ret)) }
def ref09_Head : AFn := { nloc := 2, npar := 1, res := [.loc 1], body :=
    (.seq
    (.region [
    ⟨.mov, [.c (.int .u32 0)], some 1, none⟩])
    (.seq
    (.region [
    ⟨.mov, [.loc 0], none, none⟩,
    ⟨.bin .quo, [.tmp 0, .c (.int .u64 4294967296)], none, none⟩,
    ⟨.conv .u32, [.tmp 1], none, none⟩,
    ⟨.mov, [.tmp 2], some 1, none⟩])
    .ret)) }
def ref09_Tail : AFn := { nloc := 2, npar := 1, res := [.loc 1], body :=
    (.seq
    (.region [
    ⟨.mov, [.c (.int .u32 0)], some 1, none⟩])
    (.seq
    (.region [
    ⟨.mov, [.loc 0], none, none⟩,
    ⟨.bin .rem, [.tmp 0, .c (.int .u64 4294967296)], none, none⟩,
    ⟨.conv .u32, [.tmp 1], none, none⟩,
    ⟨.mov, [.tmp 2], some 1, none⟩])
    .ret)) }
def ref09_Word : AFn := { nloc := 4, npar := 2, res := [.loc 3], body :=
    (.seq
    (.region [
    ⟨.box, [.loc 0], some 2, none⟩,
    ⟨.mov, [.c (.int .i64 0)], some 3, none⟩])
    (.seq
    (.region [
    ⟨.mov, [.loc 1], none, none⟩,
    ⟨.faddr 1, [.loc 2], none, none⟩,
    ⟨.load none, [.tmp 1], none, none⟩,
    ⟨.bin .add, [.c (.int .i64 6), .tmp 2], none, none⟩,
    ⟨.bin .mul, [.tmp 0, .tmp 3], none, none⟩,
    ⟨.bin .add, [.c (.int .i64 4), .tmp 4], none, none⟩,
    ⟨.mov, [.tmp 5], some 3, none⟩])
    .ret)) }
def ref09_Size : AFn := { nloc := 2, npar := 1, res := [.loc 1], body :=
    (.seq
    (.region [
    ⟨.mov, [.c (.int .u32 0)], some 1, none⟩])
    (.seq
    (.region [
    ⟨.mov, [.loc 0], none, none⟩,
    ⟨.call 171, [.tmp 0], none, none⟩,
    ⟨.mov, [.loc 0], none, none⟩,
    ⟨.call 170, [.tmp 2], none, none⟩,
    ⟨.bin .sub, [.tmp 1, .tmp 3], none, none⟩,
    ⟨.mov, [.tmp 4], some 1, none⟩])
    .ret)) }
def ref09_Slot : AFn := { nloc := 5, npar := 3, res := [.loc 4], body :=
    (.seq
    (.region [
    ⟨.box, [.loc 0], some 3, none⟩,
    ⟨.mov, [.c (.int .i64 0)], some 4, none⟩])
    (.seq
    (.draw [0, 1, 2, 3, 4, 5, 6, 7, 8, 9, 10, 11] 0 [
    ⟨.load (some 6), [.loc 3], none, none⟩,
    ⟨.mov, [.loc 1], none, none⟩,
    ⟨.call 172, [.tmp 0, .tmp 1], none, none⟩,
    ⟨.bin .add, [.tmp 2, .c (.int .i64 6)], none, none⟩,
    ⟨.mov, [.loc 2], none, none⟩,
    ⟨.faddr 1, [.loc 3], none, none⟩,
    ⟨.load none, [.tmp 5], none, none⟩,
    ⟨.conv .u32, [.tmp 6], none, none⟩,
    ⟨.bin .rem, [.tmp 4, .tmp 7], none, none⟩,
    ⟨.conv .i64, [.tmp 8], none, none⟩,
    ⟨.bin .add, [.tmp 3, .tmp 9], none, none⟩,
    ⟨.mov, [.tmp 10], some 4, none⟩] [(6, [0])])
    .ret)) }
def ref09_Pack : AFn := { nloc := 3, npar := 2, res := [.loc 2], body :=
    (.seq
    (.region [
    ⟨.mov, [.c (.int .u64 0)], some 2, none⟩])
    (.seq
    (.region [
    ⟨.mov, [.loc 0], none, none⟩,
    ⟨.conv .u64, [.tmp 0], none, none⟩,
    ⟨.bin .mul, [.tmp 1, .c (.int .u64 4294967296)], none, none⟩,
    ⟨.mov, [.loc 1], none, none⟩,
    ⟨.conv .u64, [.tmp 3], none, none⟩,
    ⟨.bin .add, [.tmp 2, .tmp 4], none, none⟩,
    ⟨.mov, [.tmp 5], some 2, none⟩])
    .ret)) }
def ref06_there : AFn := { nloc := 4, npar := 2, res := [.loc 3], body :=
    (.seq
    (.region [
    ⟨.box, [.loc 0], some 2, none⟩,
    ⟨.mov, [.c (.bool false)], some 3, none⟩])
    (.seq
    (.region [
    ⟨.mov, [.loc 1], none, none⟩,
    ⟨.bin .geq, [.tmp 0, .c (.int .i64 0)], none, none⟩,
    ⟨.mov, [.tmp 1], none, none⟩,
    ⟨.mov, [.loc 1], none, some (2, true)⟩,
    ⟨.faddr 0, [.loc 2], none, some (2, true)⟩,
    ⟨.load none, [.tmp 4], none, some (2, true)⟩,
    ⟨.len, [.tmp 5], none, some (2, true)⟩,
    ⟨.bin .lss, [.tmp 3, .tmp 6], none, some (2, true)⟩,
    ⟨.pick, [.tmp 2, .tmp 7, .c (.bool false)], none, none⟩,
    ⟨.mov, [.tmp 8], some 3, none⟩])
    .ret)) }
def ref06_with : AFn := { nloc := 6, npar := 3, res := [.cell 4 (some 2)], body :=
    (.seq
    (.region [
    ⟨.box, [.loc 0], some 3, none⟩,
    ⟨.alloc [.nils, .int .u64 0], [], some 4, none⟩])
    (.seq
    (.region [
    ⟨.mov, [.c (.nils)], some 5, none⟩])
    (.seq
    (.region [
    ⟨.mov, [.loc 5], none, none⟩,
    ⟨.faddr 0, [.loc 3], none, none⟩,
    ⟨.load none, [.tmp 1], none, none⟩,
    ⟨.append 1 8, [.tmp 0, .tmp 2], none, none⟩,
    ⟨.mov, [.tmp 3], some 5, none⟩])
    (.seq
    (.region [
    ⟨.mov, [.loc 5], none, none⟩,
    ⟨.mov, [.loc 1], none, none⟩,
    ⟨.mov, [.loc 2], none, none⟩,
    ⟨.iaddr 1 none, [.tmp 0, .tmp 1], none, none⟩,
    ⟨.store 1, [.tmp 3, .tmp 2], none, none⟩])
    (.seq
    (.region [
    ⟨.mov, [.loc 5], none, none⟩,
    ⟨.faddr 1, [.loc 3], none, none⟩,
    ⟨.load none, [.tmp 1], none, none⟩,
    ⟨.bin .add, [.tmp 2, .c (.int .u64 1)], none, none⟩,
    ⟨.build [.nils, .int .u64 0] [(0, 1), (1, 1)], [.tmp 0, .tmp 3], none, none⟩,
    ⟨.store 2, [.loc 4, .tmp 4], none, none⟩])
    .ret))))) }
def conf_within : AFn := { nloc := 4, npar := 3, res := [.loc 3], body :=
    (.seq
    (.region [
    ⟨.mov, [.c (.bool false)], some 3, none⟩])
    (.seq
    (.region [
    ⟨.mov, [.loc 0], none, none⟩,
    ⟨.mov, [.loc 1], none, none⟩,
    ⟨.bin .geq, [.tmp 0, .tmp 1], none, none⟩,
    ⟨.mov, [.tmp 2], none, none⟩,
    ⟨.mov, [.loc 0], none, some (3, true)⟩,
    ⟨.mov, [.loc 2], none, some (3, true)⟩,
    ⟨.bin .leq, [.tmp 4, .tmp 5], none, some (3, true)⟩,
    ⟨.pick, [.tmp 3, .tmp 6, .c (.bool false)], none, none⟩,
    ⟨.mov, [.tmp 7], some 3, none⟩])
    .ret)) }
def conf_own_at : AFn := { nloc := 5, npar := 2, res := [.loc 3], body :=
    (.seq
    (.region [
    ⟨.box, [.loc 0], some 2, none⟩,
    ⟨.mov, [.c (.int .i64 0)], some 3, none⟩])
    (.seq
    (.seq
    (.region [
    ⟨.faddr 0, [.loc 2], none, none⟩,
    ⟨.load (some 6), [.tmp 0], none, none⟩,
    ⟨.call 157, [.tmp 1], none, none⟩,
    ⟨.not, [.tmp 2], none, none⟩,
    ⟨.mov, [.tmp 3], none, none⟩,
    ⟨.faddr 6, [.loc 2], none, some (4, false)⟩,
    ⟨.load none, [.tmp 5], none, some (4, false)⟩,
    ⟨.faddr 0, [.loc 2], none, some (4, false)⟩,
    ⟨.faddr 0, [.tmp 7], none, some (4, false)⟩,
    ⟨.load none, [.tmp 8], none, some (4, false)⟩,
    ⟨.bin .sub, [.tmp 9, .c (.int .i64 1)], none, some (4, false)⟩,
    ⟨.call 176, [.tmp 6, .c (.int .i64 0), .tmp 10], none, some (4, false)⟩,
    ⟨.not, [.tmp 11], none, some (4, false)⟩,
    ⟨.pick, [.tmp 4, .c (.bool true), .tmp 12], some 4, none⟩])
    (.cond (.loc 4)
      (.seq
      (.region [
    ⟨.mov, [.c (.int .i64 (-1))], some 3, none⟩])
      .ret)
      .skip))
    (.seq
    (.region [
    ⟨.faddr 6, [.loc 2], none, none⟩,
    ⟨.load none, [.tmp 0], none, none⟩,
    ⟨.faddr 0, [.loc 2], none, none⟩,
    ⟨.faddr 1, [.tmp 2], none, none⟩,
    ⟨.load none, [.tmp 3], none, none⟩,
    ⟨.bin .add, [.c (.int .i64 6), .tmp 4], none, none⟩,
    ⟨.bin .mul, [.tmp 1, .tmp 5], none, none⟩,
    ⟨.bin .add, [.c (.int .i64 4), .tmp 6], none, none⟩,
    ⟨.mov, [.loc 1], none, none⟩,
    ⟨.bin .add, [.tmp 7, .tmp 8], none, none⟩,
    ⟨.mov, [.tmp 9], some 3, none⟩])
    .ret))) }
def word_Len : AFn := { nloc := 2, npar := 1, res := [.loc 1], body :=
    (.seq
    (.region [
    ⟨.mov, [.c (.int .u32 0)], some 1, none⟩])
    (.seq
    (.region [
    ⟨.mov, [.loc 0], none, none⟩,
    ⟨.call 182, [.tmp 0], none, none⟩,
    ⟨.mov, [.loc 0], none, none⟩,
    ⟨.call 179, [.tmp 2], none, none⟩,
    ⟨.bin .sub, [.tmp 1, .tmp 3], none, none⟩,
    ⟨.mov, [.tmp 4], some 1, none⟩])
    .ret)) }
def word_Head : AFn := { nloc := 2, npar := 1, res := [.loc 1], body :=
    (.seq
    (.region [
    ⟨.mov, [.c (.int .u32 0)], some 1, none⟩])
    (.seq
    (.region [
    ⟨.mov, [.loc 0], none, none⟩,
    ⟨.shf .shr, [.tmp 0, .c (.int .u64 32)], none, none⟩,
    ⟨.conv .u32, [.tmp 1], none, none⟩,
    ⟨.mov, [.tmp 2], some 1, none⟩])
    .ret)) }
def ref05_Right : AFn := { nloc := 6, npar := 1, res := [.loc 2], body :=
    (.seq
    (.region [
    ⟨.box, [.loc 0], some 1, none⟩,
    ⟨.mov, [.c (.bool false)], some 2, none⟩])
    (.seq
    (.region [
    ⟨.mov, [.c (.bool false)], some 3, none⟩])
    (.seq
    (.seq
    (.region [
    ⟨.mov, [.c (.int .i64 2)], some 4, none⟩])
    (.block 0
    (.loop
    (.seq
    (.seq
    (.region [
    ⟨.mov, [.loc 4], none, none⟩,
    ⟨.bin .leq, [.tmp 0, .c (.int .i64 64)], some 5, none⟩])
    (.cond (.loc 5)
      .skip
      (.exit 0)))
    (.seq
    (.block 1
    (.region [
    ⟨.mov, [.loc 3], none, none⟩,
    ⟨.mov, [.tmp 0], none, none⟩,
    ⟨.faddr 1, [.loc 1], none, some (1, false)⟩,
    ⟨.load none, [.tmp 2], none, some (1, false)⟩,
    ⟨.mov, [.loc 4], none, some (1, false)⟩,
    ⟨.bin .eql, [.tmp 3, .tmp 4], none, some (1, false)⟩,
    ⟨.pick, [.tmp 1, .c (.bool true), .tmp 5], none, none⟩,
    ⟨.mov, [.tmp 6], some 3, none⟩]))
    (.region [
    ⟨.mov, [.loc 4], none, none⟩,
    ⟨.bin .mul, [.tmp 0, .c (.int .i64 2)], none, none⟩,
    ⟨.mov, [.tmp 1], some 4, none⟩]))))))
    (.seq
    (.region [
    ⟨.mov, [.loc 3], none, none⟩,
    ⟨.mov, [.tmp 0], none, none⟩,
    ⟨.faddr 0, [.loc 1], none, some (1, true)⟩,
    ⟨.load none, [.tmp 2], none, some (1, true)⟩,
    ⟨.bin .geq, [.tmp 3, .c (.int .i64 1)], none, some (1, true)⟩,
    ⟨.pick, [.tmp 1, .tmp 4, .c (.bool false)], none, none⟩,
    ⟨.mov, [.tmp 5], none, none⟩,
    ⟨.faddr 0, [.loc 1], none, some (6, true)⟩,
    ⟨.load none, [.tmp 7], none, some (6, true)⟩,
    ⟨.bin .leq, [.tmp 8, .c (.int .i64 8)], none, some (6, true)⟩,
    ⟨.pick, [.tmp 6, .tmp 9, .c (.bool false)], none, none⟩,
    ⟨.mov, [.tmp 10], none, none⟩,
    ⟨.faddr 2, [.loc 1], none, some (11, true)⟩,
    ⟨.load none, [.tmp 12], none, some (11, true)⟩,
    ⟨.bin .geq, [.tmp 13, .c (.int .i64 1)], none, some (11, true)⟩,
    ⟨.pick, [.tmp 11, .tmp 14, .c (.bool false)], none, none⟩,
    ⟨.mov, [.tmp 15], none, none⟩,
    ⟨.faddr 2, [.loc 1], none, some (16, true)⟩,
    ⟨.load none, [.tmp 17], none, some (16, true)⟩,
    ⟨.bin .leq, [.tmp 18, .c (.int .i64 256)], none, some (16, true)⟩,
    ⟨.pick, [.tmp 16, .tmp 19, .c (.bool false)], none, none⟩,
    ⟨.mov, [.tmp 20], none, none⟩,
    ⟨.faddr 3, [.loc 1], none, some (21, true)⟩,
    ⟨.load none, [.tmp 22], none, some (21, true)⟩,
    ⟨.faddr 0, [.loc 1], none, some (21, true)⟩,
    ⟨.load none, [.tmp 24], none, some (21, true)⟩,
    ⟨.bin .gtr, [.tmp 23, .tmp 25], none, some (21, true)⟩,
    ⟨.pick, [.tmp 21, .tmp 26, .c (.bool false)], none, none⟩,
    ⟨.mov, [.tmp 27], none, none⟩,
    ⟨.faddr 3, [.loc 1], none, some (28, true)⟩,
    ⟨.load none, [.tmp 29], none, some (28, true)⟩,
    ⟨.bin .leq, [.tmp 30, .c (.int .i64 16)], none, some (28, true)⟩,
    ⟨.pick, [.tmp 28, .tmp 31, .c (.bool false)], none, none⟩,
    ⟨.mov, [.tmp 32], none, none⟩,
    ⟨.faddr 4, [.loc 1], none, some (33, true)⟩,
    ⟨.load none, [.tmp 34], none, some (33, true)⟩,
    ⟨.bin .geq, [.tmp 35, .c (.int .i64 2)], none, some (33, true)⟩,
    ⟨.pick, [.tmp 33, .tmp 36, .c (.bool false)], none, none⟩,
    ⟨.mov, [.tmp 37], none, none⟩,
    ⟨.faddr 4, [.loc 1], none, some (38, true)⟩,
    ⟨.load none, [.tmp 39], none, some (38, true)⟩,
    ⟨.bin .leq, [.tmp 40, .c (.int .i64 200)], none, some (38, true)⟩,
    ⟨.pick, [.tmp 38, .tmp 41, .c (.bool false)], none, none⟩,
    ⟨.mov, [.tmp 42], none, none⟩,
    ⟨.faddr 5, [.loc 1], none, some (43, true)⟩,
    ⟨.load none, [.tmp 44], none, some (43, true)⟩,
    ⟨.bin .geq, [.tmp 45, .c (.int .i64 0)], none, some (43, true)⟩,
    ⟨.pick, [.tmp 43, .tmp 46, .c (.bool false)], none, none⟩,
    ⟨.mov, [.tmp 47], none, none⟩,
    ⟨.faddr 5, [.loc 1], none, some (48, true)⟩,
    ⟨.load none, [.tmp 49], none, some (48, true)⟩,
    ⟨.bin .leq, [.tmp 50, .c (.int .i64 1000)], none, some (48, true)⟩,
    ⟨.pick, [.tmp 48, .tmp 51, .c (.bool false)], none, none⟩,
    ⟨.mov, [.tmp 52], some 2, none⟩])
    .ret)))) }
def word_Tail : AFn := { nloc := 2, npar := 1, res := [.loc 1], body :=
    (.seq
    (.region [
    ⟨.mov, [.c (.int .u32 0)], some 1, none⟩])
    (.seq
    (.region [
    ⟨.mov, [.loc 0], none, none⟩,
    ⟨.conv .u32, [.tmp 0], none, none⟩,
    ⟨.mov, [.tmp 1], some 1, none⟩])
    .ret)) }
def word_Pack : AFn := { nloc := 3, npar := 2, res := [.loc 2], body :=
    (.seq
    (.region [
    ⟨.mov, [.c (.int .u64 0)], some 2, none⟩])
    (.seq
    (.region [
    ⟨.mov, [.loc 0], none, none⟩,
    ⟨.conv .u64, [.tmp 0], none, none⟩,
    ⟨.shf .shl, [.tmp 1, .c (.int .u64 32)], none, none⟩,
    ⟨.mov, [.loc 1], none, none⟩,
    ⟨.conv .u64, [.tmp 3], none, none⟩,
    ⟨.bin .or, [.tmp 2, .tmp 4], none, none⟩,
    ⟨.mov, [.tmp 5], some 2, none⟩])
    .ret)) }
end Go.Am.F10
end
section
namespace Go.Am.F10
variable {X : Type}
def c_conf_within : AFun X := amFunc [] conf_within
def c_conf_Config_Right : AFun X := amFunc [(176, c_conf_within)] conf_Config_Right
def c_conf_Config_Cells : AFun X := amFunc [(157, c_conf_Config_Right)] conf_Config_Cells
def c_conf_own_at : AFun X := amFunc [(157, c_conf_Config_Right), (176, c_conf_within)] conf_own_at
def c_conf_Config_Slot : AFun X := amFunc [(157, c_conf_Config_Right), (177, c_conf_own_at)] conf_Config_Slot
def c_conf_Config_Word : AFun X := amFunc [(177, c_conf_own_at)] conf_Config_Word
def c_word_Tail : AFun X := amFunc [] word_Tail
def c_word_Head : AFun X := amFunc [] word_Head
def c_word_Len : AFun X := amFunc [(182, c_word_Tail), (179, c_word_Head)] word_Len
def c_word_Pack : AFun X := amFunc [] word_Pack
def c_kit_SameInts : AFun X := amFunc [] kit_SameInts
def c_kit_Pick : AFun X := amFunc [] kit_Pick
def c_docs_Made : AFun X := amFunc [(87, c_kit_Pick)] docs_Made
def c_docs_byteAt : AFun X := amFunc [] docs_byteAt
def c_conf_Config_Next : AFun X := amFunc [(177, c_conf_own_at)] conf_Config_Next
def c_conf_Config_Stat : AFun X := amFunc [(177, c_conf_own_at)] conf_Config_Stat
def c_conf_Config_Tick : AFun X := amFunc [(177, c_conf_own_at)] conf_Config_Tick
def c_conf_Config_Sys : AFun X := amFunc [(177, c_conf_own_at)] conf_Config_Sys
def c_conf_Config_Flag : AFun X := amFunc [(177, c_conf_own_at)] conf_Config_Flag
def c_docs_Filled : AFun X := amFunc [(156, c_conf_Config_Cells), (157, c_conf_Config_Right), (158, c_docs_byteAt), (159, c_conf_Config_Word), (160, c_conf_Config_Slot), (161, c_conf_Config_Next), (162, c_conf_Config_Stat), (163, c_conf_Config_Tick), (164, c_conf_Config_Sys), (165, c_conf_Config_Flag)] docs_Filled
def c_ref06_New : AFun X := amFunc [] ref06_New
def c_ref06_there : AFun X := amFunc [] ref06_there
def c_ref06_with : AFun X := amFunc [] ref06_with
def c_ref06_Store : AFun X := amFunc [(72, c_ref06_there), (73, c_ref06_with)] ref06_Store
def c_docs_Config : AFun X := amFunc [] docs_Config
def c_ref05_Right : AFun X := amFunc [] ref05_Right
def c_ref09_There : AFun X := amFunc [(181, c_ref05_Right)] ref09_There
def c_ref09_Head : AFun X := amFunc [] ref09_Head
def c_ref09_Tail : AFun X := amFunc [] ref09_Tail
def c_ref09_Word : AFun X := amFunc [] ref09_Word
def c_ref09_Size : AFun X := amFunc [(171, c_ref09_Tail), (170, c_ref09_Head)] ref09_Size
def c_ref09_Slot : AFun X := amFunc [(172, c_ref09_Word)] ref09_Slot
def c_ref09_Pack : AFun X := amFunc [] ref09_Pack
end Go.Am.F10
end
section
namespace Go.Am
mutual
def AV.ren (ρ : Nat → Option Nat) : AV → Option AV
  | .ptr i o => match ρ i with | some k => some (.ptr k o) | none => none
  | .sl i o len cap => match ρ i with | some k => some (.sl k o len cap) | none => none
  | .map i => match ρ i with | some k => some (.map k) | none => none
  | .fn f a b => match AV.renL ρ a, AV.renL ρ b with | some a, some b => some (.fn f a b) | _, _ => none
  | .agg cs => match AV.renL ρ cs with | some cs => some (.agg cs) | none => none
  | .tup cs => match AV.renL ρ cs with | some cs => some (.tup cs) | none => none
  | .undef => some .undef
  | .bool b => some (.bool b)
  | .int k n => some (.int k n)
  | .str s => some (.str s)
  | .nilp => some .nilp
  | .nils => some .nils
  | .nilm => some .nilm
  | .nilf => some .nilf
def AV.renL (ρ : Nat → Option Nat) : List AV → Option (List AV)
  | [] => some []
  | a :: as => match AV.ren ρ a, AV.renL ρ as with | some a, some as => some (a :: as) | _, _ => none
end

def renC {X : Type} (ρ : Nat → Option Nat) : Chunk X → Option (Chunk X)
  | .cells sz ro l => match AV.renL ρ l with | some l => some (.cells sz ro l) | none => none
  | .abs x => some (.abs x)
  | .dead => some .dead
section
variable {num : Nat → Nat} {μ μ' : Mu} {ρ : Nat → Option Nat}
theorem VR.fn_inv {f : Nat} {a b : List AV} {v : Value} (h : VR num μ (.fn f a b) v) : ∃ cs ds : Array Value, v = .func (.func (num f)) cs ds ∧ VRL num μ a cs.toList ∧ VRL num μ b ds.toList := by
  cases h with
  | fn h1 h2 h3 h4 => exact ⟨_, _, rfl, ⟨by simpa using h1, fun j x d hx hd => h2 j x d hx (by simpa using hd)⟩, by simpa using h3, fun j x d hx hd => h4 j x d hx (by simpa using hd)⟩
theorem VR.fn_of {f : Nat} {a b : List AV} {cs ds : Array Value} (h : VRL num μ a cs.toList) (k : VRL num μ b ds.toList) : VR num μ (.fn f a b) (.func (.func (num f)) cs ds) :=
  .fn (by simpa using h.1) (fun j x d hx hd => h.2 j x d hx (by simpa using hd)) (by simpa using k.1) (fun j x d hx hd => k.2 j x d hx (by simpa using hd))
mutual
theorem ren_forth (hρ : ∀ j i p, ρ j = some i → μ j = some p → μ' i = some p) : ∀ {a b : AV} {v : Value}, AV.ren ρ a = some b → VR num μ a v → VR num μ' b v
  | .ptr i o, b, v, h, hv => by
    simp only [AV.ren] at h
    split at h
    · rename_i k hk; injection h with h; subst h
      cases hv with
      | ptr hp => exact .ptr (hρ _ _ _ hk hp)
    · cases h
  | .sl i o len cap, b, v, h, hv => by
    simp only [AV.ren] at h
    split at h
    · rename_i k hk; injection h with h; subst h
      cases hv with
      | sl hp => exact .sl (hρ _ _ _ hk hp)
      | slu hp hl hr => exact .slu (hρ _ _ _ hk hp) hl hr
      | slz hp => exact .slz (hρ _ _ _ hk hp)
      | slz0 hp => exact .slz0 (hρ _ _ _ hk hp)
    · cases h
  | .map i, b, v, h, hv => by
    simp only [AV.ren] at h
    split at h
    · rename_i k hk; injection h with h; subst h
      cases hv with
      | map hp => exact .map (hρ _ _ _ hk hp)
    · cases h
  | .fn f x y, b, v, h, hv => by
    simp only [AV.ren] at h
    split at h
    · rename_i x' y' hx hy; injection h with h; subst h
      obtain ⟨cs, ds, rfl, h1, h2⟩ := hv.fn_inv
      exact VR.fn_of (renL_forth hρ hx h1) (renL_forth hρ hy h2)
    · cases h
  | .agg cs, b, v, h, hv => by
    simp only [AV.ren] at h
    split at h
    · rename_i cs' hx; injection h with h; subst h
      obtain ⟨ds, rfl, h1⟩ := hv.agg_inv
      have := VR.agg_of (renL_forth hρ hx h1)
      simpa using this
    · cases h
  | .tup cs, b, v, h, hv => by
    simp only [AV.ren] at h
    split at h
    · rename_i cs' hx; injection h with h; subst h
      obtain ⟨ds, rfl, h1⟩ := hv.tup_inv
      have := VR.tup_of (renL_forth hρ hx h1)
      simpa using this
    · cases h
  | .undef, b, v, h, hv => by injection h with h; subst h; exact .undef v
  | .bool _, b, v, h, hv => by injection h with h; subst h; cases hv; exact .bool _
  | .int _ _, b, v, h, hv => by injection h with h; subst h; cases hv; exact .int _ _
  | .str _, b, v, h, hv => by injection h with h; subst h; cases hv; exact .str _
  | .nilp, b, v, h, hv => by injection h with h; subst h; cases hv; exact .nilp
  | .nils, b, v, h, hv => by injection h with h; subst h; cases hv; exact .nils
  | .nilm, b, v, h, hv => by injection h with h; subst h; cases hv; exact .nilm
  | .nilf, b, v, h, hv => by injection h with h; subst h; cases hv; exact .nilf
theorem renL_forth (hρ : ∀ j i p, ρ j = some i → μ j = some p → μ' i = some p) : ∀ {as bs : List AV} {vs : List Value}, AV.renL ρ as = some bs → VRL num μ as vs → VRL num μ' bs vs
  | [], bs, vs, h, hv => by injection h with h; subst h; rw [hv.nil_inv]; exact VRL.nil
  | a :: as, bs, vs, h, hv => by
    simp only [AV.renL] at h
    split at h
    · rename_i a' as' h1 h2; injection h with h; subst h
      obtain ⟨v, vs', rfl, k1, k2⟩ := hv.cons_inv
      exact VRL.cons (ren_forth hρ h1 k1) (renL_forth hρ h2 k2)
    · cases h
end

mutual
theorem ren_back (hρ : ∀ j i p, ρ j = some i → μ' i = some p → μ j = some p) : ∀ {a b : AV} {v : Value}, AV.ren ρ a = some b → VR num μ' b v → VR num μ a v
  | .ptr i o, b, v, h, hv => by
    simp only [AV.ren] at h
    split at h
    · rename_i k hk; injection h with h; subst h
      cases hv with
      | ptr hp => exact .ptr (hρ _ _ _ hk hp)
    · cases h
  | .sl i o len cap, b, v, h, hv => by
    simp only [AV.ren] at h
    split at h
    · rename_i k hk; injection h with h; subst h
      cases hv with
      | sl hp => exact .sl (hρ _ _ _ hk hp)
      | slu hp hl hr => exact .slu (hρ _ _ _ hk hp) hl hr
      | slz hp => exact .slz (hρ _ _ _ hk hp)
      | slz0 hp => exact .slz0 (hρ _ _ _ hk hp)
    · cases h
  | .map i, b, v, h, hv => by
    simp only [AV.ren] at h
    split at h
    · rename_i k hk; injection h with h; subst h
      cases hv with
      | map hp => exact .map (hρ _ _ _ hk hp)
    · cases h
  | .fn f x y, b, v, h, hv => by
    simp only [AV.ren] at h
    split at h
    · rename_i x' y' hx hy; injection h with h; subst h
      obtain ⟨cs, ds, rfl, h1, h2⟩ := hv.fn_inv
      exact VR.fn_of (renL_back hρ hx h1) (renL_back hρ hy h2)
    · cases h
  | .agg cs, b, v, h, hv => by
    simp only [AV.ren] at h
    split at h
    · rename_i cs' hx; injection h with h; subst h
      obtain ⟨ds, rfl, h1⟩ := hv.agg_inv
      have := VR.agg_of (renL_back hρ hx h1)
      simpa using this
    · cases h
  | .tup cs, b, v, h, hv => by
    simp only [AV.ren] at h
    split at h
    · rename_i cs' hx; injection h with h; subst h
      obtain ⟨ds, rfl, h1⟩ := hv.tup_inv
      have := VR.tup_of (renL_back hρ hx h1)
      simpa using this
    · cases h
  | .undef, b, v, h, hv => by exact .undef v
  | .bool _, b, v, h, hv => by injection h with h; subst h; cases hv; exact .bool _
  | .int _ _, b, v, h, hv => by injection h with h; subst h; cases hv; exact .int _ _
  | .str _, b, v, h, hv => by injection h with h; subst h; cases hv; exact .str _
  | .nilp, b, v, h, hv => by injection h with h; subst h; cases hv; exact .nilp
  | .nils, b, v, h, hv => by injection h with h; subst h; cases hv; exact .nils
  | .nilm, b, v, h, hv => by injection h with h; subst h; cases hv; exact .nilm
  | .nilf, b, v, h, hv => by injection h with h; subst h; cases hv; exact .nilf
theorem renL_back (hρ : ∀ j i p, ρ j = some i → μ' i = some p → μ j = some p) : ∀ {as bs : List AV} {vs : List Value}, AV.renL ρ as = some bs → VRL num μ' bs vs → VRL num μ as vs
  | [], bs, vs, h, hv => by injection h with h; subst h; rw [hv.nil_inv]; exact VRL.nil
  | a :: as, bs, vs, h, hv => by
    simp only [AV.renL] at h
    split at h
    · rename_i a' as' h1 h2; injection h with h; subst h
      obtain ⟨v, vs', rfl, k1, k2⟩ := hv.cons_inv
      exact VRL.cons (ren_back hρ h1 k1) (renL_back hρ h2 k2)
    · cases h
end
end
theorem renL_length {ρ : Nat → Option Nat} : ∀ {as bs : List AV}, AV.renL ρ as = some bs → as.length = bs.length
  | [], bs, h => by injection h with h; subst h; rfl
  | a :: as, bs, h => by
    simp only [AV.renL] at h
    split at h
    · rename_i a' as' h1 h2; injection h with h; subst h; simp [renL_length h2]
    · cases h
theorem renL_get {ρ : Nat → Option Nat} : ∀ {as bs : List AV}, AV.renL ρ as = some bs → ∀ {o : Nat} {b : AV}, bs[o]? = some b → ∃ a, as[o]? = some a ∧ AV.ren ρ a = some b
  | [], bs, h, o, b, hb => by injection h with h; subst h; simp at hb
  | a :: as, bs, h, o, b, hb => by
    simp only [AV.renL] at h
    split at h
    · rename_i a' as' h1 h2; injection h with h; subst h
      cases o with
      | zero => simp at hb; subst hb; exact ⟨a, rfl, h1⟩
      | succ o => simp at hb; obtain ⟨x, hx, hr⟩ := renL_get h2 hb; exact ⟨x, by simpa using hx, hr⟩
    · cases h
theorem renL_get' {ρ : Nat → Option Nat} : ∀ {as bs : List AV}, AV.renL ρ as = some bs → ∀ {o : Nat} {a : AV}, as[o]? = some a → ∃ b, bs[o]? = some b ∧ AV.ren ρ a = some b
  | [], bs, h, o, b, hb => by simp at hb
  | a :: as, bs, h, o, b, hb => by
    simp only [AV.renL] at h
    split at h
    · rename_i a' as' h1 h2; injection h with h; subst h
      cases o with
      | zero => simp at hb; subst hb; exact ⟨a', rfl, h1⟩
      | succ o => simp at hb; obtain ⟨x, hx, hr⟩ := renL_get' h2 hb; exact ⟨x, by simpa using hx, hr⟩
    · cases h
section
variable {X : Type}
structure LiftAt (f : AFun X) (is : List Nat) (ρ : Nat → Option Nat) (as' : List AV) (ms : Mem X) (v' : AV) (ms' : Mem X) (args : List AV) (m : Mem X) (v : AV) (m' : Mem X) : Prop where
  lt : ∀ i, i ∈ is → i < m.length
  len : ms.length = is.length
  ch : ∀ (j i : Nat) (c : Chunk X), is[j]? = some i → ms[j]? = some c → ∃ c', renC (fun j => is[j]?) c = some c' ∧ m[i]? = some c'
  arg : AV.renL (fun j => is[j]?) as' = some args
  run : f as' ms = some (v', ms')
  h0 : ∀ j, j < is.length → ρ j = is[j]?
  new : ∀ (j i : Nat), is.length ≤ j → ρ j = some i → m.length ≤ i ∧ i < m'.length ∧ j < ms'.length ∧ ∀ sz l, ms'[j]? ≠ some (.cells sz true l)
  inj : ∀ j j' i, ρ j = some i → ρ j' = some i → j = j'
  mlen : m.length ≤ m'.length
  mlen' : ms.length ≤ ms'.length
  same : ∀ (i : Nat), i < m.length → i ∉ is → m'[i]? = m[i]?
  ch' : ∀ (j i : Nat) (c : Chunk X), ρ j = some i → ms'[j]? = some c → ∃ c', renC ρ c = some c' ∧ m'[i]? = some c'
  ro : ∀ (j sz : Nat) (l : List AV), j < is.length → ms'[j]? = some (.cells sz true l) → ∃ sz l, ms[j]? = some (.cells sz true l)
  res : AV.ren ρ v' = some v
def Lift (f g : AFun X) : Prop := ∀ args m v m', g args m = some (v, m') → ∃ is ρ as' ms v' ms', LiftAt f is ρ as' ms v' ms' args m v m'
theorem Lift.mono {f g : AFun X} (h : Lift f g) : Mono g := fun args m v m' hg => by
  obtain ⟨_, _, _, _, _, _, k⟩ := h args m v m' hg
  exact k.mlen
variable {A : AbsSem X} {num : Nat → Nat} {P : Program}
open Classical in
theorem lift_sound {f g : AFun X} (h : Lift f g) {k : FuncId} (hf : Sound A num P k f) : Sound A num P k g := by
  intro F μ m w args vs v m' hS hV hg
  obtain ⟨is, ρ, as', ms, v', ms', L⟩ := h args m v m' hg
  obtain ⟨own, hS⟩ := hS
  -- the small memory
  have hisn : ∀ j j' i, is[j]? = some i → is[j']? = some i → j = j' := fun j j' i h1 h2 =>
    L.inj j j' i ((L.h0 j (List.getElem?_eq_some_iff.1 h1).1).trans h1) ((L.h0 j' (List.getElem?_eq_some_iff.1 h2).1).trans h2)
  let μs : Mu := fun j => match is[j]? with | some i => μ i | none => none
  let owns : Nat → Option Nat := fun c => if h : ∃ j, ∃ i, own c = some i ∧ is[j]? = some i then some h.choose else none
  let Fs : Nat → Prop := fun c => ∃ i, i ∈ is ∧ own c = some i
  have hμs : ∀ j i, is[j]? = some i → μs j = μ i := fun j i h1 => by simp only [μs, h1]
  have howns : ∀ c j i, is[j]? = some i → (own c = some i ↔ owns c = some j) := by
    intro c j i hj
    constructor
    · intro ho
      have hex : ∃ j, ∃ i, own c = some i ∧ is[j]? = some i := ⟨j, i, ho, hj⟩
      have hc := hex.choose_spec
      obtain ⟨i', h1, h2⟩ := hc
      have : i' = i := by rw [ho] at h1; exact (Option.some.inj h1).symm
      subst this
      have : hex.choose = j := hisn _ _ _ h2 hj
      simp only [owns, dif_pos hex, this]
    · intro ho
      simp only [owns] at ho
      split at ho
      · rename_i hex
        obtain ⟨i', h1, h2⟩ := hex.choose_spec
        injection ho with ho
        rw [ho, hj] at h2
        injection h2 with h2; subst h2; exact h1
      · cases ho
  have hownsF : ∀ c j, owns c = some j → Fs c ∧ j < is.length := by
    intro c j ho
    simp only [owns] at ho
    split at ho
    · rename_i hex
      obtain ⟨i', h1, h2⟩ := hex.choose_spec
      injection ho with ho
      exact ⟨⟨i', List.mem_of_getElem? h2, h1⟩, by rw [← ho]; exact (List.getElem?_eq_some_iff.1 h2).1⟩
    · cases ho
  have hFsF : ∀ c, Fs c → F c := fun c ⟨i, _, h1⟩ => hS.isF c i h1
  have hsim : Sim A num Fs μs ms w.heap := by
    refine ⟨owns, fun c j ho => (hownsF c j ho).1, fun c hc => hS.lt c (hFsF c hc), fun j hj => ?_, fun j ch p hj hp => ?_⟩
    · have : is[j]? = none := List.getElem?_eq_none (by rw [← L.len]; exact hj)
      simp only [μs, this]
    · have hjl : j < is.length := by rw [← L.len]; exact (List.getElem?_eq_some_iff.1 hj).1
      have hi := List.getElem?_eq_getElem hjl
      obtain ⟨c', h1, h2⟩ := L.ch j _ ch hi hj
      rw [hμs j _ hi] at hp
      have hok := hS.ok _ c' p h2 hp
      have hback : ∀ (j : Nat) (i : Nat) (p : Pl), is[j]? = some i → μ i = some p → μs j = some p := fun j i p h1 h2 => by rw [hμs j i h1]; exact h2
      cases ch with
      | cells sz ro l =>
        simp only [renC] at h1
        split at h1
        · rename_i l' hl
          injection h1 with h1; subst h1
          obtain ⟨arr, T, fr, k1, k2, k3, k4, k5⟩ := hok
          refine ⟨arr, T, fr, k1, k2, ⟨by rw [renL_length hl]; exact k3.1, k3.2.1, fun o a ha => ?_⟩, fun hro hFs => k4 hro (hFsF _ hFs), fun hro => ⟨(howns _ _ _ hi).1 (k5 hro).1, (k5 hro).2⟩⟩
          obtain ⟨b, hb, hr⟩ := renL_get' hl ha
          obtain ⟨v, hv1, hv2⟩ := k3.2.2 o b hb
          exact ⟨v, hv1, ren_back hback hr hv2⟩
        · cases h1
      | abs x =>
        injection h1 with h1; subst h1
        exact A.frame hok (fun c => howns c _ _ hi) (fun _ _ => rfl)
      | dead => trivial
  have hargs : VRL num μs as' vs := renL_back (fun j i p h1 h2 => by rw [hμs j i h1]; exact h2) L.arg hV
  refine (hf Fs μs ms w as' vs v' ms' hsim hargs L.run).mono fun e w' he => ?_
  obtain ⟨F', μ', cv, rfl, hcv, ⟨own', hS'⟩, hE⟩ := he
  -- back to the great one
  have hF'd : ∀ c, F' c → F c → Fs c := by
    intro c h1 h2
    rcases hE.fr c h1 with h3 | h3
    · exact h3
    · have := hS.lt c h2; omega
  let μ2 : Mu := fun i => if i < m.length then μ i else if h : ∃ j, ρ j = some i then μ' h.choose else none
  let F2 : Nat → Prop := fun c => (F c ∧ ¬ Fs c) ∨ F' c
  let own2 : Nat → Option Nat := fun c => if F' c then (match own' c with | some j => ρ j | none => none) else if Fs c then none else match own c with | some i => if i < m.length then some i else none | none => none
  have hμ2 : ∀ (j i : Nat) (p : Pl), ρ j = some i → μ' j = some p → μ2 i = some p := by
    intro j i p hj hp
    simp only [μ2]
    by_cases hjl : j < is.length
    · have hi : is[j]? = some i := (L.h0 j hjl).symm.trans hj
      have hlt := L.lt i (List.mem_of_getElem? hi)
      rw [if_pos hlt, ← hμs j i hi, ← hE.mu j (by rw [L.len]; exact hjl)]
      exact hp
    · have := (L.new j i (by omega) hj).1
      rw [if_neg (by omega)]
      have hex : ∃ j, ρ j = some i := ⟨j, hj⟩
      have : hex.choose = j := L.inj _ _ _ hex.choose_spec hj
      rw [dif_pos hex, this]; exact hp
  have hρlt : ∀ (j i : Nat), ρ j = some i → i < m.length → is[j]? = some i := by
    intro j i hj hi
    by_cases hjl : j < is.length
    · exact (L.h0 j hjl).symm.trans hj
    · have := (L.new j i (by omega) hj).1; omega
  have hown2 : ∀ (c j i : Nat), ρ j = some i → (own' c = some j ↔ own2 c = some i) := by
    intro c j i hj
    constructor
    · intro ho
      have := hS'.isF c j ho
      simp only [own2, if_pos this, ho, hj]
    · intro ho
      simp only [own2] at ho
      split at ho
      · split at ho
        · rename_i j' hj'
          rw [hj', L.inj _ _ _ ho hj]
        · cases ho
      · split at ho
        · cases ho
        · rename_i hnF hnFs
          split at ho
          · rename_i i' hi'
            split at ho
            · rename_i hlt
              injection ho with ho; subst ho
              exact absurd ⟨i', List.mem_of_getElem? (hρlt j i' hj hlt), hi'⟩ hnFs
            · cases ho
          · cases ho
  have hown2' : ∀ (c i : Nat), i < m.length → i ∉ is → (own c = some i ↔ own2 c = some i) := by
    intro c i hlt hni
    constructor
    · intro ho
      have hFc := hS.isF c i ho
      have hnFs : ¬ Fs c := fun ⟨i', h1, h2⟩ => by
        rw [ho] at h2; injection h2 with h2; subst h2; exact hni h1
      have hnF' : ¬ F' c := fun h1 => hnFs (hF'd c h1 hFc)
      simp only [own2, if_neg hnF', if_neg hnFs, ho, if_pos hlt]
    · intro ho
      simp only [own2] at ho
      split at ho
      · split at ho
        · rename_i j' hj'
          exact absurd (List.mem_of_getElem? (hρlt j' i ho hlt)) hni
        · cases ho
      · split at ho
        · cases ho
        · split at ho
          · rename_i i' hi'
            split at ho
            · injection ho with ho; subst ho; exact hi'
            · cases ho
          · cases ho
  have hkept : ∀ c, c < w.heap.size → ¬ Fs c → w'.heap[c]? = w.heap[c]? := fun c h1 h2 => hE.keep c h1 h2
  have small : ∀ (j i : Nat) (c : Chunk X) (p : Pl), ρ j = some i → ms'[j]? = some c → μ' j = some p → ∀ ch, m'[i]? = some ch → ChunkOk A num μ2 F2 (fun c => own2 c = some i) p w'.heap ch := by
    intro j i c p hj hc hp ch hch
    obtain ⟨c', h1, h2⟩ := L.ch' j i c hj hc
    have : c' = ch := by rw [h2] at hch; exact Option.some.inj hch
    subst this
    have hok := hS'.ok j c p hc hp
    cases c with
    | cells sz ro l =>
      simp only [renC] at h1
      split at h1
      · rename_i l' hl
        injection h1 with h1; subst h1
        obtain ⟨arr, T, fr, k1, k2, k3, k4, k5⟩ := hok
        refine ⟨arr, T, fr, k1, k2, ⟨by rw [← renL_length hl]; exact k3.1, k3.2.1, fun o a ha => ?_⟩, fun hro hF2 => ?_, fun hro => ⟨(hown2 _ _ _ hj).1 (k5 hro).1, (k5 hro).2⟩⟩
        · obtain ⟨b, hb, hr⟩ := renL_get hl ha
          obtain ⟨v, hv1, hv2⟩ := k3.2.2 o b hb
          exact ⟨v, hv1, ren_forth hμ2 hr hv2⟩
        · subst hro
          rcases hF2 with ⟨hF, hnFs⟩ | hF'
          · by_cases hjl : j < is.length
            · obtain ⟨sz0, l0, hm0⟩ := L.ro j sz l hjl hc
              have hi := List.getElem?_eq_getElem hjl
              have hi' : is[j]? = some i := (L.h0 j hjl).symm.trans hj
              have hps : μs j = some p := (hE.mu j (by rw [L.len]; exact hjl)).symm.trans hp
              obtain ⟨c0, g1, g2⟩ := L.ch j i _ hi' hm0
              simp only [renC] at g1
              split at g1
              · injection g1 with g1; subst g1
                obtain ⟨_, _, _, _, _, _, q4, _⟩ := hS.ok i _ p g2 ((hμs j i hi').symm.trans hps)
                exact q4 rfl hF
              · cases g1
            · exact absurd hc ((L.new j i (by omega) hj).2.2.2 sz l)
          · exact k4 rfl hF'
      · cases h1
    | abs x =>
      injection h1 with h1; subst h1
      exact A.frame hok (fun c => hown2 c _ _ hj) (fun _ _ => rfl)
    | dead => injection h1 with h1; subst h1; trivial
  refine ⟨F2, μ2, cv, rfl, ren_forth hμ2 L.res hcv, ⟨own2, ?_⟩, ?_⟩
  · refine ⟨fun c i ho => ?_, fun c hc => ?_, fun i hi => ?_, fun i ch p hi hp => ?_⟩
    · simp only [own2] at ho
      split at ho
      · rename_i hF'; exact .inr hF'
      · split at ho
        · cases ho
        · rename_i hnFs
          split at ho
          · rename_i i' hi'; exact .inl ⟨hS.isF c i' hi', hnFs⟩
          · cases ho
    · rcases hc with ⟨h1, _⟩ | h1
      · exact Nat.lt_of_lt_of_le (hS.lt c h1) hE.size
      · exact hS'.lt c h1
    · simp only [μ2]
      have := L.mlen
      rw [if_neg (by omega)]
      split
      · rename_i hex
        have hj := hex.choose_spec
        by_cases hjl : hex.choose < is.length
        · have h1 := L.lt i (List.mem_of_getElem? ((L.h0 _ hjl).symm.trans hj)); omega
        · have := (L.new _ i (by omega) hj).2.1; omega
      · rfl
    · by_cases hlt : i < m.length
      · have hp0 : μ i = some p := by simpa only [μ2, if_pos hlt] using hp
        by_cases hni : i ∈ is
        · obtain ⟨j, hj⟩ := List.getElem?_of_mem hni
          have hjl := (List.getElem?_eq_some_iff.1 hj).1
          have hρj : ρ j = some i := (L.h0 j hjl).trans hj
          have hpj : μ' j = some p := (hE.mu j (by rw [L.len]; exact hjl)).trans ((hμs j i hj).trans hp0)
          have hms := List.getElem?_eq_getElem (show j < ms'.length by have := L.mlen'; have := L.len; omega)
          exact small j i _ p hρj hms hpj ch hi
        · rw [L.same i hlt hni] at hi
          refine (hS.ok i ch p hi hp0).keep (fun i' p' hp' => ?_) (fun c => hown2' c i hlt hni) (fun c hc => ?_) (fun c hc hFc => ⟨hkept c hc (fun h1 => hFc (hFsF c h1)), fun h1 => ?_⟩)
          · have : i' < m.length := by
              rcases Nat.lt_or_ge i' m.length with h1 | h1
              · exact h1
              · rw [hS.new i' h1] at hp'; cases hp'
            simp only [μ2, if_pos this]; exact hp'
          · refine hkept c (hS.lt c (hS.isF c i hc)) (fun ⟨i', h1, h2⟩ => ?_)
            rw [hc] at h2; injection h2 with h2; subst h2; exact hni h1
          · rcases h1 with ⟨h1, _⟩ | h1
            · exact hFc h1
            · rcases hE.fr c h1 with h2 | h2
              · exact hFc (hFsF c h2)
              · omega
      · simp only [μ2, if_neg hlt] at hp
        split at hp
        · rename_i hex
          have hj := hex.choose_spec
          by_cases hjl : hex.choose < is.length
          · have h1 := L.lt i (List.mem_of_getElem? ((L.h0 _ hjl).symm.trans hj)); omega
          · have hn := L.new _ i (by omega) hj
            exact small _ i _ p hj (List.getElem?_eq_getElem hn.2.2.1) hp ch hi
        · cases hp
  · refine ⟨fun i hi => by simp only [μ2, if_pos hi], fun c hc => ?_, hE.size, fun c hc hFc => hE.keep c hc (fun h1 => hFc (hFsF c h1)), hE.os, hE.tape, hE.output⟩
    rcases hc with ⟨h1, _⟩ | h1
    · exact .inl h1
    · rcases hE.fr c h1 with h2 | h2
      · exact .inl (hFsF c h2)
      · exact .inr h2
end
end Go.Am
namespace Go.Am
section
variable {X : Type}
mutual
theorem ren_no {ρ : Nat → Option Nat} : ∀ {a b : AV}, AV.ren (fun _ => none) a = some b → AV.ren ρ a = some b
  | .ptr i o, b, h => by simp [AV.ren] at h
  | .sl i o len cap, b, h => by simp [AV.ren] at h
  | .map i, b, h => by simp [AV.ren] at h
  | .fn f x y, b, h => by
    simp only [AV.ren] at h ⊢
    split at h
    · rename_i x' y' hx hy; rw [renL_no hx, renL_no hy]; exact h
    · cases h
  | .agg cs, b, h => by
    simp only [AV.ren] at h ⊢
    split at h
    · rename_i x' hx; rw [renL_no hx]; exact h
    · cases h
  | .tup cs, b, h => by
    simp only [AV.ren] at h ⊢
    split at h
    · rename_i x' hx; rw [renL_no hx]; exact h
    · cases h
  | .undef, b, h => h
  | .bool _, b, h => h
  | .int _ _, b, h => h
  | .str _, b, h => h
  | .nilp, b, h => h
  | .nils, b, h => h
  | .nilm, b, h => h
  | .nilf, b, h => h
theorem renL_no {ρ : Nat → Option Nat} : ∀ {a b : List AV}, AV.renL (fun _ => none) a = some b → AV.renL ρ a = some b
  | [], b, h => h
  | a :: as, b, h => by
    simp only [AV.renL] at h ⊢
    split at h
    · rename_i x y hx hy; rw [ren_no hx, renL_no hy]; exact h
    · cases h
end

def pureF (g : List AV → Option AV) : AFun X := fun args m => match g args with | some v => some (v, m) | none => none
def no : Nat → Option Nat := fun _ => none
theorem lift_pure {f : AFun X} {g : List AV → Option AV} (h : ∀ args v, g args = some v → AV.renL no args = some args ∧ AV.ren no v = some v ∧ ∃ ms', f args [] = some (v, ms')) : Lift f (pureF g) := by
  intro args m v m' hg
  unfold pureF at hg
  split at hg
  · rename_i u hu
    simp only [Option.some.injEq, Prod.mk.injEq] at hg
    obtain ⟨rfl, rfl⟩ := hg
    obtain ⟨h1, h2, ms', h3⟩ := h args u hu
    refine ⟨[], no, args, [], u, ms', ?_⟩
    exact { lt := fun i hi => by simp at hi, len := rfl, ch := fun j i c hj => by simp at hj, arg := by simp only [List.getElem?_nil]; exact h1, run := h3, h0 := fun j hj => by simp at hj,
            new := fun j i _ hj => by simp [no] at hj, inj := fun j j' i hj => by simp [no] at hj, mlen := Nat.le_refl _, mlen' := by simp, same := fun _ _ _ => rfl,
            ch' := fun j i c hj => by simp [no] at hj, ro := fun j sz l hj => by simp at hj, res := h2 }
  · cases hg
def only (i : Nat) : Nat → Option Nat := fun j => if j = 0 then some i else none
end
end Go.Am
end
section
namespace Go.Am
section
variable {α : Type} {f : α → List AV} {sz : Nat}
theorem rows_len (hf : ∀ x, (f x).length = sz) : ∀ (ws : List α), (ws.flatMap f).length = ws.length * sz
  | [] => by simp
  | x :: xs => by rw [List.flatMap_cons, List.length_append, hf, rows_len hf xs, List.length_cons, Nat.succ_mul]; omega
theorem rows_part (hf : ∀ x, (f x).length = sz) : ∀ {ws : List α} {k : Nat} {x : α}, ws[k]? = some x → ((ws.flatMap f).drop (k * sz)).take sz = f x
  | [], k, x, h => by simp at h
  | y :: ys, 0, x, h => by
    simp only [List.getElem?_cons_zero, Option.some.injEq] at h; subst h
    rw [List.flatMap_cons, Nat.zero_mul, List.drop_zero, List.take_left' (hf _)]
  | y :: ys, k + 1, x, h => by
    simp only [List.getElem?_cons_succ] at h
    rw [List.flatMap_cons, Nat.succ_mul, Nat.add_comm, ← List.drop_drop, List.drop_left' (hf _)]
    exact rows_part hf h
theorem rows_at (hf : ∀ x, (f x).length = sz) {ws : List α} {k : Nat} {x : α} (h : ws[k]? = some x) {o : Nat} (ho : o < sz) : (ws.flatMap f)[k * sz + o]? = (f x)[o]? := by
  rw [← rows_part hf h, List.getElem?_take, if_pos ho, List.getElem?_drop]
theorem rows_one : ∀ {f : α → List AV} {ws : List α}, (∀ x, (f x).all AV.one = true) → (ws.flatMap f).all AV.one = true
  | f, [], _ => rfl
  | f, x :: xs, h => by rw [List.flatMap_cons, List.all_append, h x, rows_one h]; rfl
section
variable {X : Type} {m : Mem X} {bytes j q n : Nat} {c : Option Nat} {sz' : Nat} {ro : Bool} {l x : List AV}
theorem append_nils (hx : m[j]? = some (.cells sz' ro x)) (hl : x.length = sz) (h1 : x.all AV.one = true) (hb : bytes ≤ 35184372088832) : appendA sz bytes .nils (.sl j 0 1 c) m = some (.sl m.length 0 1 none, m ++ [.cells sz false x]) := by
  have hr : rowOf m sz (.sl j 0 1 c) = some x := by
    simp only [rowOf, getC, hx]
    rw [if_neg (by omega), if_pos (by omega), List.drop_zero, List.take_of_length_le (by omega)]
  simp only [appendA, lenA, hr]
  rw [if_neg (by omega), if_pos ⟨by omega, by omega, h1⟩]
theorem append_none (hq : m[q]? = some (.cells sz false l)) (hn : l.length = n * sz) (hx : m[j]? = some (.cells sz' ro x)) (hl : x.length = sz) (h0 : l.all AV.one = true) (h1 : x.all AV.one = true) (hb : (n + 1) * bytes ≤ 35184372088832) (hn1 : n + 1 ≤ 35184372088832) :
    appendA sz bytes (.sl q 0 n none) (.sl j 0 1 c) m = some (.sl m.length 0 (n + 1) none, m.set q .dead ++ [.cells sz false (l ++ x)]) := by
  have hr : rowOf m sz (.sl j 0 1 c) = some x := by
    simp only [rowOf, getC, hx]
    rw [if_neg (by omega), if_pos (by omega), List.drop_zero, List.take_of_length_le (by omega)]
  have ht : (l.drop 0).take (n * sz) = l := by rw [List.drop_zero, List.take_of_length_le (by omega)]
  simp only [appendA, lenA, hr, getC, hq, ht]
  rw [if_neg (by omega), if_pos ⟨trivial, by omega, hb, hn1, by rw [List.all_append, h0, h1]; rfl⟩]
end
def Own {X : Type} (m0 m : Mem X) (sz n : Nat) (l : List AV) (lv : AV) : Prop := (n = 0 ∧ l = [] ∧ lv = .nils) ∨ ∃ q, lv = .sl q 0 n none ∧ m[q]? = some (.cells sz false l) ∧ m0.length ≤ q ∧ q < m.length
section
variable {X : Type} {m0 J : Mem X} {bytes j n : Nat} {c : Option Nat} {sz' : Nat} {ro : Bool} {l x : List AV} {lv : AV}
theorem own_nil {m : Mem X} : Own m0 m sz 0 [] .nils := .inl ⟨rfl, rfl, rfl⟩
theorem own_app (ho : Own m0 (m0 ++ J) sz n l lv) (hl : l.length = n * sz) (h0 : l.all AV.one = true) (hx : (m0 ++ J)[j]? = some (.cells sz' ro x)) (hxl : x.length = sz) (h1 : x.all AV.one = true) (hb : (n + 1) * bytes ≤ 35184372088832) (hn1 : n + 1 ≤ 35184372088832) :
    ∃ q' J', appendA sz bytes lv (.sl j 0 1 c) (m0 ++ J) = some (.sl q' 0 (n + 1) none, m0 ++ J') ∧ Own m0 (m0 ++ J') sz (n + 1) (l ++ x) (.sl q' 0 (n + 1) none) := by
  rcases ho with ⟨rfl, rfl, rfl⟩ | ⟨q, rfl, hq, h2, h3⟩
  · refine ⟨_, J ++ [.cells sz false x], by rw [append_nils hx hxl h1 (by omega), List.append_assoc], .inr ⟨_, rfl, ?_, by simp, by simp⟩⟩
    rw [← List.append_assoc, get_concat]; rfl
  · refine ⟨_, J.set (q - m0.length) .dead ++ [.cells sz false (l ++ x)], by rw [append_none hq hl hx hxl h0 h1 hb hn1, List.set_append_right _ _ h2, List.append_assoc], .inr ⟨_, rfl, ?_, by simp, by simp⟩⟩
    rw [← List.append_assoc, ← List.set_append_right _ _ h2, List.getElem?_append_right (by simp)]
    simp
end
end
end Go.Am
end
section
namespace Go.Am
section
variable {X : Type}
def Sl (m : Mem X) (wr : Bool) (sz n : Nat) (l : List AV) (v : AV) : Prop :=
  l.length = n * sz ∧ ((v = .nils ∧ n = 0) ∨ ∃ q o cap, v = .sl q o n cap ∧ (0 < n → ∃ ro L, m[q]? = some (.cells sz ro L) ∧ (L.drop o).take (n * sz) = l ∧ o + n * sz ≤ L.length ∧ (wr = true → ro = false)))
def Keep (m m' : Mem X) : Prop := m.length ≤ m'.length ∧ ∀ i, i < m.length → m'[i]? = m[i]?
theorem Keep.refl (m : Mem X) : Keep m m := ⟨Nat.le_refl _, fun _ _ => rfl⟩
theorem Keep.trans {m m' m'' : Mem X} (h : Keep m m') (k : Keep m' m'') : Keep m m'' :=
  ⟨Nat.le_trans h.1 k.1, fun i hi => (k.2 i (Nat.lt_of_lt_of_le hi h.1)).trans (h.2 i hi)⟩
theorem Keep.app (m J : Mem X) : Keep m (m ++ J) := ⟨by simp, fun i hi => List.getElem?_append_left hi⟩
theorem Keep.set {m m' : Mem X} (h : Keep m m') {q : Nat} (hq : m.length ≤ q) (c : Chunk X) : Keep m (m'.set q c) :=
  ⟨by simpa using h.1, fun i hi => by rw [List.getElem?_set_ne (by omega)]; exact h.2 i hi⟩
theorem Keep.get {m m' : Mem X} (h : Keep m m') {i : Nat} {c : Chunk X} (hi : m[i]? = some c) : m'[i]? = some c := (h.2 i (List.getElem?_eq_some_iff.1 hi).1).trans hi
theorem Sl.keep {m m' : Mem X} {wr : Bool} {sz n : Nat} {l : List AV} {v : AV} (h : Sl m wr sz n l v) (k : Keep m m') : Sl m' wr sz n l v := by
  obtain ⟨h0, h⟩ := h
  refine ⟨h0, ?_⟩
  rcases h with h | ⟨q, o, cap, h1, h2⟩
  · exact .inl h
  · refine .inr ⟨q, o, cap, h1, fun hn => ?_⟩
    obtain ⟨ro, L, h3, h4⟩ := h2 hn
    exact ⟨ro, L, k.get h3, h4⟩
theorem Sl.ro {m : Mem X} {wr : Bool} {sz n : Nat} {l : List AV} {v : AV} (h : Sl m wr sz n l v) : Sl m false sz n l v := by
  obtain ⟨h0, h⟩ := h
  refine ⟨h0, ?_⟩
  rcases h with h | ⟨q, o, cap, h1, h2⟩
  · exact .inl h
  · refine .inr ⟨q, o, cap, h1, fun hn => ?_⟩
    obtain ⟨ro, L, h3, h4, h5, _⟩ := h2 hn
    exact ⟨ro, L, h3, h4, h5, fun h => by cases h⟩
theorem Sl.len {m : Mem X} {wr : Bool} {sz n : Nat} {l : List AV} {v : AV} (h : Sl m wr sz n l v) : lenA v = some n := by
  rcases h.2 with ⟨h1, rfl⟩ | ⟨q, o, cap, h1, _⟩ <;> rw [h1] <;> rfl
theorem Sl.nil {m : Mem X} {wr : Bool} {sz : Nat} : Sl m wr sz 0 [] .nils := ⟨by simp, .inl ⟨rfl, rfl⟩⟩
theorem Sl.at {m : Mem X} {wr : Bool} {sz n : Nat} {l : List AV} {v : AV} (h : Sl m wr sz n l v) (hn : 0 < n) : ∃ q o cap ro L, v = .sl q o n cap ∧ m[q]? = some (.cells sz ro L) ∧ (L.drop o).take (n * sz) = l ∧ o + n * sz ≤ L.length ∧ (wr = true → ro = false) := by
  rcases h.2 with ⟨_, h1⟩ | ⟨q, o, cap, h1, h2⟩
  · omega
  · obtain ⟨ro, L, h3⟩ := h2 hn
    exact ⟨q, o, cap, ro, L, h1, h3⟩
theorem sl_get {L l : List AV} {o k : Nat} (h : (L.drop o).take k = l) {j : Nat} (hj : j < k) : L[o + j]? = l[j]? := by
  rw [← h, List.getElem?_take, if_pos hj, List.getElem?_drop]
theorem ev_len (G : List (Nat × AFun X)) (v : AV) (m : Mem X) : amOp G .len [v] m = match lenA v with | some n => some (.int .i64 n, m) | none => none := by
  simp only [amOp]
  cases lenA v <;> rfl
def Fr (n0 : Nat) (v : AV) : Prop := v = .nils ∨ ∃ q o n cap, v = .sl q o n cap ∧ n0 ≤ q
theorem Own.sl {m0 m : Mem X} {sz n : Nat} {l : List AV} {v : AV} (h : Own m0 m sz n l v) (hl : l.length = n * sz) : Sl m true sz n l v ∧ Fr m0.length v := by
  rcases h with ⟨rfl, rfl, rfl⟩ | ⟨q, rfl, h1, h2, h3⟩
  · exact ⟨Sl.nil, .inl rfl⟩
  · exact ⟨⟨hl, .inr ⟨q, 0, none, rfl, fun _ => ⟨false, l, h1, by rw [List.drop_zero, ← hl, List.take_length], by omega, fun _ => rfl⟩⟩⟩, .inr ⟨q, 0, n, none, rfl, h2⟩⟩
end
end Go.Am
end
