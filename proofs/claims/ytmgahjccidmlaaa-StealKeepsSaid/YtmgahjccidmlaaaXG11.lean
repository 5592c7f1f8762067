import Derived.Test.YtmgahjccidmlaaaXG10
set_option linter.unusedSimpArgs false
set_option linter.unusedVariables false
section
namespace Go.Am.F09
set_option maxRecDepth 10000
def docs_Made : AFn := { nloc := 4, npar := 1, res := [.cell 2 (some 6)], body :=
    (.seq
    (.region [
    ⟨.box, [.loc 0], some 1, none⟩,
    ⟨.alloc [.int .i64 0, .int .i64 0, .int .i64 0, .int .i64 0, .int .i64 0, .int .i64 0], [], some 2, none⟩])
    (.seq
    (.region [
    ⟨.faddr 0, [.loc 1], none, none⟩,
    ⟨.load none, [.tmp 0], none, none⟩,
    ⟨.call 87, [.tmp 1, .c (.int .i64 4)], none, none⟩,
    ⟨.bin .add, [.c (.int .i64 1), .tmp 2], none, none⟩,
    ⟨.mov, [.tmp 3], some 3, none⟩])
    (.seq
    (.draw [0, 1, 2, 3, 4, 5, 6, 7, 8, 9, 10, 11, 12, 13, 14, 15, 16, 17, 18, 19, 20, 21, 22, 23] 0 [
    ⟨.mov, [.loc 3], none, none⟩,
    ⟨.faddr 1, [.loc 1], none, none⟩,
    ⟨.load none, [.tmp 1], none, none⟩,
    ⟨.call 87, [.tmp 2, .c (.int .i64 3)], none, none⟩,
    ⟨.shf .shl, [.c (.int .i64 2), .tmp 3], none, none⟩,
    ⟨.faddr 2, [.loc 1], none, none⟩,
    ⟨.load none, [.tmp 5], none, none⟩,
    ⟨.call 87, [.tmp 6, .c (.int .i64 20)], none, none⟩,
    ⟨.bin .add, [.c (.int .i64 1), .tmp 7], none, none⟩,
    ⟨.mov, [.loc 3], none, none⟩,
    ⟨.bin .add, [.tmp 9, .c (.int .i64 1)], none, none⟩,
    ⟨.faddr 3, [.loc 1], none, none⟩,
    ⟨.load none, [.tmp 11], none, none⟩,
    ⟨.call 87, [.tmp 12, .c (.int .i64 3)], none, none⟩,
    ⟨.bin .add, [.tmp 10, .tmp 13], none, none⟩,
    ⟨.faddr 4, [.loc 1], none, none⟩,
    ⟨.load none, [.tmp 15], none, none⟩,
    ⟨.call 87, [.tmp 16, .c (.int .i64 6)], none, none⟩,
    ⟨.bin .add, [.c (.int .i64 2), .tmp 17], none, none⟩,
    ⟨.faddr 5, [.loc 1], none, none⟩,
    ⟨.load none, [.tmp 19], none, none⟩,
    ⟨.call 87, [.tmp 20, .c (.int .i64 3)], none, none⟩,
    ⟨.build [.int .i64 0, .int .i64 0, .int .i64 0, .int .i64 0, .int .i64 0, .int .i64 0] [(0, 1), (1, 1), (2, 1), (3, 1), (4, 1), (5, 1)], [.tmp 0, .tmp 4, .tmp 8, .tmp 14, .tmp 18, .tmp 21], none, none⟩,
    ⟨.store 6, [.loc 2, .tmp 22], none, none⟩] [(6, [0]), (12, [0, 4]), (16, [0, 4, 8]), (20, [0, 4, 8, 14])])
    .ret))) }
def kit_Pick : AFn := { nloc := 4, npar := 2, res := [.loc 2], body :=
    (.seq
    (.region [
    ⟨.mov, [.c (.int .i64 0)], some 2, none⟩])
    (.seq
    (.seq
    (.region [
    ⟨.mov, [.loc 1], none, none⟩,
    ⟨.bin .leq, [.tmp 0, .c (.int .i64 0)], some 3, none⟩])
    (.cond (.loc 3)
      (.seq
      (.region [
    ⟨.mov, [.c (.int .i64 0)], some 2, none⟩])
      .ret)
      .skip))
    (.seq
    (.region [
    ⟨.mov, [.loc 0], none, none⟩,
    ⟨.mov, [.loc 1], none, none⟩,
    ⟨.bin .rem, [.tmp 0, .tmp 1], none, none⟩,
    ⟨.mov, [.loc 1], none, none⟩,
    ⟨.bin .add, [.tmp 2, .tmp 3], none, none⟩,
    ⟨.mov, [.loc 1], none, none⟩,
    ⟨.bin .rem, [.tmp 4, .tmp 5], none, none⟩,
    ⟨.mov, [.tmp 6], some 2, none⟩])
    .ret))) }
def docs_Mem : AFn := { nloc := 7, npar := 1, res := [.loc 1, .cell 2 (some 2)], body :=
    (.seq
    (.region [
    ⟨.mov, [.c (.nilp)], some 1, none⟩,
    ⟨.alloc [.nils, .int .u64 0], [], some 2, none⟩])
    (.seq
    (.region [
    ⟨.mov, [.loc 0], none, none⟩,
    ⟨.len, [.tmp 0], none, none⟩,
    ⟨.call 21, [.tmp 1], none, none⟩,
    ⟨.mov, [.loc 0], none, none⟩,
    ⟨.len, [.tmp 3], none, none⟩,
    ⟨.call 63, [.tmp 4], none, none⟩,
    ⟨.alloc [.nils, .int .u64 0], [], some 4, none⟩,
    ⟨.mov, [.tmp 2], some 3, none⟩,
    ⟨.store 2, [.tmp 6, .tmp 5], none, none⟩])
    (.seq
    (.seq
    (.region [
    ⟨.mov, [.c (.int .i64 0)], some 5, none⟩])
    (.block 0
    (.loop
    (.seq
    (.seq
    (.region [
    ⟨.mov, [.loc 5], none, none⟩,
    ⟨.mov, [.loc 0], none, none⟩,
    ⟨.len, [.tmp 1], none, none⟩,
    ⟨.bin .lss, [.tmp 0, .tmp 2], none, none⟩,
    ⟨.mov, [.tmp 3], none, none⟩,
    ⟨.mov, [.loc 5], none, some (4, true)⟩,
    ⟨.faddr 0, [.loc 4], none, some (4, true)⟩,
    ⟨.load none, [.tmp 6], none, some (4, true)⟩,
    ⟨.len, [.tmp 7], none, some (4, true)⟩,
    ⟨.bin .lss, [.tmp 5, .tmp 8], none, some (4, true)⟩,
    ⟨.pick, [.tmp 4, .tmp 9, .c (.bool false)], some 6, none⟩])
    (.cond (.loc 6)
      .skip
      (.exit 0)))
    (.seq
    (.block 1
    (.seq
    (.region [
    ⟨.mov, [.loc 3], none, none⟩,
    ⟨.mov, [.loc 5], none, none⟩,
    ⟨.mov, [.loc 0], none, none⟩,
    ⟨.mov, [.loc 5], none, none⟩,
    ⟨.iaddr 1 none, [.tmp 2, .tmp 3], none, none⟩,
    ⟨.load none, [.tmp 4], none, none⟩,
    ⟨.call 22, [.tmp 0, .tmp 1, .tmp 5], none, none⟩])
    (.region [
    ⟨.load (some 2), [.loc 4], none, none⟩,
    ⟨.mov, [.loc 5], none, none⟩,
    ⟨.mov, [.loc 0], none, none⟩,
    ⟨.mov, [.loc 5], none, none⟩,
    ⟨.iaddr 1 none, [.tmp 2, .tmp 3], none, none⟩,
    ⟨.load none, [.tmp 4], none, none⟩,
    ⟨.call 65, [.tmp 0, .tmp 1, .tmp 5], none, none⟩,
    ⟨.store 2, [.loc 4, .tmp 6], none, none⟩])))
    (.region [
    ⟨.mov, [.loc 5], none, none⟩,
    ⟨.bin .add, [.tmp 0, .c (.int .i64 1)], none, none⟩,
    ⟨.mov, [.tmp 1], some 5, none⟩]))))))
    (.seq
    (.region [
    ⟨.mov, [.loc 3], none, none⟩,
    ⟨.load (some 2), [.loc 4], none, none⟩,
    ⟨.mov, [.tmp 0], some 1, none⟩,
    ⟨.store 2, [.loc 2, .tmp 1], none, none⟩])
    .ret)))) }
def docs_Filled : AFn := { nloc := 13, npar := 2, res := [.loc 3], body :=
    (.seq
    (.region [
    ⟨.box, [.loc 0], some 2, none⟩,
    ⟨.mov, [.c (.nils)], some 3, none⟩])
    (.seq
    (.region [
    ⟨.load (some 6), [.loc 2], none, none⟩,
    ⟨.call 156, [.tmp 0], none, none⟩,
    ⟨.make 1 8 [.int .u64 0], [.tmp 1, .tmp 1], none, none⟩,
    ⟨.mov, [.tmp 2], some 4, none⟩])
    (.seq
    (.seq
    (.region [
    ⟨.mov, [.c (.int .i64 0)], some 5, none⟩])
    (.block 0
    (.loop
    (.seq
    (.seq
    (.region [
    ⟨.mov, [.loc 5], none, none⟩,
    ⟨.faddr 0, [.loc 2], none, none⟩,
    ⟨.load none, [.tmp 1], none, none⟩,
    ⟨.bin .lss, [.tmp 0, .tmp 2], none, none⟩,
    ⟨.mov, [.tmp 3], none, none⟩,
    ⟨.load (some 6), [.loc 2], none, some (4, true)⟩,
    ⟨.call 157, [.tmp 5], none, some (4, true)⟩,
    ⟨.pick, [.tmp 4, .tmp 6, .c (.bool false)], some 9, none⟩])
    (.cond (.loc 9)
      .skip
      (.exit 0)))
    (.seq
    (.block 1
    (.seq
    (.region [
    ⟨.mov, [.loc 1], none, none⟩,
    ⟨.mov, [.loc 5], none, none⟩,
    ⟨.bin .mul, [.c (.int .i64 4), .tmp 1], none, none⟩,
    ⟨.call 158, [.tmp 0, .tmp 2], none, none⟩,
    ⟨.bin .rem, [.tmp 3, .c (.int .i64 7)], none, none⟩,
    ⟨.conv .u32, [.tmp 4], none, none⟩,
    ⟨.mov, [.tmp 5], some 6, none⟩])
    (.seq
    (.seq
    (.region [
    ⟨.mov, [.loc 1], none, none⟩,
    ⟨.mov, [.loc 5], none, none⟩,
    ⟨.bin .mul, [.c (.int .i64 4), .tmp 1], none, none⟩,
    ⟨.call 158, [.tmp 0, .tmp 2], none, none⟩,
    ⟨.bin .rem, [.tmp 3, .c (.int .i64 5)], none, none⟩,
    ⟨.bin .eql, [.tmp 4, .c (.int .i64 0)], some 10, none⟩])
    (.cond (.loc 10)
      (.region [
    ⟨.mov, [.loc 6], none, none⟩,
    ⟨.neg, [.tmp 0], none, none⟩,
    ⟨.bin .sub, [.tmp 1, .c (.int .u32 1)], none, none⟩,
    ⟨.mov, [.tmp 2], some 6, none⟩])
      .skip))
    (.seq
    (.draw [0, 1, 2, 3, 4, 5, 6, 7, 8, 9, 10] 0 [
    ⟨.mov, [.loc 1], none, none⟩,
    ⟨.mov, [.loc 5], none, none⟩,
    ⟨.bin .mul, [.c (.int .i64 4), .tmp 1], none, none⟩,
    ⟨.bin .add, [.tmp 2, .c (.int .i64 1)], none, none⟩,
    ⟨.call 158, [.tmp 0, .tmp 3], none, none⟩,
    ⟨.faddr 1, [.loc 2], none, none⟩,
    ⟨.load none, [.tmp 5], none, none⟩,
    ⟨.bin .add, [.tmp 6, .c (.int .i64 1)], none, none⟩,
    ⟨.bin .rem, [.tmp 4, .tmp 7], none, none⟩,
    ⟨.conv .u32, [.tmp 8], none, none⟩,
    ⟨.mov, [.tmp 9], some 7, none⟩] [(6, [0])])
    (.seq
    (.region [
    ⟨.mov, [.loc 4], none, none⟩,
    ⟨.load (some 6), [.loc 2], none, none⟩,
    ⟨.mov, [.loc 5], none, none⟩,
    ⟨.call 159, [.tmp 1, .tmp 2], none, none⟩,
    ⟨.mov, [.loc 6], none, none⟩,
    ⟨.conv .u64, [.tmp 4], none, none⟩,
    ⟨.shf .shl, [.tmp 5, .c (.int .u64 32)], none, none⟩,
    ⟨.mov, [.loc 6], none, none⟩,
    ⟨.mov, [.loc 7], none, none⟩,
    ⟨.bin .add, [.tmp 7, .tmp 8], none, none⟩,
    ⟨.conv .u64, [.tmp 9], none, none⟩,
    ⟨.bin .or, [.tmp 6, .tmp 10], none, none⟩,
    ⟨.iaddr 1 none, [.tmp 0, .tmp 3], none, none⟩,
    ⟨.store 1, [.tmp 12, .tmp 11], none, none⟩])
    (.seq
    (.seq
    (.region [
    ⟨.mov, [.c (.int .u32 0)], some 8, none⟩])
    (.block 2
    (.loop
    (.seq
    (.seq
    (.region [
    ⟨.mov, [.loc 8], none, none⟩,
    ⟨.mov, [.loc 7], none, none⟩,
    ⟨.bin .lss, [.tmp 0, .tmp 1], some 11, none⟩])
    (.cond (.loc 11)
      .skip
      (.exit 2)))
    (.seq
    (.block 3
    (.region [
    ⟨.mov, [.loc 4], none, none⟩,
    ⟨.load (some 6), [.loc 2], none, none⟩,
    ⟨.mov, [.loc 5], none, none⟩,
    ⟨.mov, [.loc 6], none, none⟩,
    ⟨.mov, [.loc 8], none, none⟩,
    ⟨.bin .add, [.tmp 3, .tmp 4], none, none⟩,
    ⟨.call 160, [.tmp 1, .tmp 2, .tmp 5], none, none⟩,
    ⟨.mov, [.loc 5], none, none⟩,
    ⟨.bin .mul, [.tmp 7, .c (.int .i64 100)], none, none⟩,
    ⟨.conv .u64, [.tmp 8], none, none⟩,
    ⟨.mov, [.loc 8], none, none⟩,
    ⟨.conv .u64, [.tmp 10], none, none⟩,
    ⟨.bin .add, [.tmp 9, .tmp 11], none, none⟩,
    ⟨.iaddr 1 none, [.tmp 0, .tmp 6], none, none⟩,
    ⟨.store 1, [.tmp 13, .tmp 12], none, none⟩]))
    (.region [
    ⟨.mov, [.loc 8], none, none⟩,
    ⟨.bin .add, [.tmp 0, .c (.int .u32 1)], none, none⟩,
    ⟨.mov, [.tmp 1], some 8, none⟩]))))))
    (.seq
    (.seq
    (.region [
    ⟨.mov, [.loc 1], none, none⟩,
    ⟨.mov, [.loc 5], none, none⟩,
    ⟨.bin .mul, [.c (.int .i64 4), .tmp 1], none, none⟩,
    ⟨.bin .add, [.tmp 2, .c (.int .i64 2)], none, none⟩,
    ⟨.call 158, [.tmp 0, .tmp 3], none, none⟩,
    ⟨.bin .rem, [.tmp 4, .c (.int .i64 3)], none, none⟩,
    ⟨.bin .eql, [.tmp 5, .c (.int .i64 0)], some 12, none⟩])
    (.cond (.loc 12)
      (.region [
    ⟨.mov, [.loc 4], none, none⟩,
    ⟨.load (some 6), [.loc 2], none, none⟩,
    ⟨.mov, [.loc 5], none, none⟩,
    ⟨.call 161, [.tmp 1, .tmp 2], none, none⟩,
    ⟨.mov, [.loc 5], none, none⟩,
    ⟨.bin .mul, [.tmp 4, .c (.int .i64 100)], none, none⟩,
    ⟨.conv .u64, [.tmp 5], none, none⟩,
    ⟨.bin .add, [.tmp 6, .c (.int .u64 91)], none, none⟩,
    ⟨.iaddr 1 none, [.tmp 0, .tmp 3], none, none⟩,
    ⟨.store 1, [.tmp 8, .tmp 7], none, none⟩])
      .skip))
    (.seq
    (.region [
    ⟨.mov, [.loc 4], none, none⟩,
    ⟨.load (some 6), [.loc 2], none, none⟩,
    ⟨.mov, [.loc 5], none, none⟩,
    ⟨.call 162, [.tmp 1, .tmp 2], none, none⟩,
    ⟨.mov, [.loc 1], none, none⟩,
    ⟨.mov, [.loc 5], none, none⟩,
    ⟨.bin .mul, [.c (.int .i64 4), .tmp 5], none, none⟩,
    ⟨.bin .add, [.tmp 6, .c (.int .i64 2)], none, none⟩,
    ⟨.call 158, [.tmp 4, .tmp 7], none, none⟩,
    ⟨.bin .quo, [.tmp 8, .c (.int .i64 3)], none, none⟩,
    ⟨.bin .rem, [.tmp 9, .c (.int .i64 3)], none, none⟩,
    ⟨.conv .u64, [.tmp 10], none, none⟩,
    ⟨.iaddr 1 none, [.tmp 0, .tmp 3], none, none⟩,
    ⟨.store 1, [.tmp 12, .tmp 11], none, none⟩])
    (.seq
    (.region [
    ⟨.mov, [.loc 4], none, none⟩,
    ⟨.load (some 6), [.loc 2], none, none⟩,
    ⟨.mov, [.loc 5], none, none⟩,
    ⟨.call 163, [.tmp 1, .tmp 2], none, none⟩,
    ⟨.mov, [.loc 1], none, none⟩,
    ⟨.mov, [.loc 5], none, none⟩,
    ⟨.bin .mul, [.c (.int .i64 4), .tmp 5], none, none⟩,
    ⟨.bin .add, [.tmp 6, .c (.int .i64 3)], none, none⟩,
    ⟨.call 158, [.tmp 4, .tmp 7], none, none⟩,
    ⟨.bin .rem, [.tmp 8, .c (.int .i64 9)], none, none⟩,
    ⟨.conv .u64, [.tmp 9], none, none⟩,
    ⟨.iaddr 1 none, [.tmp 0, .tmp 3], none, none⟩,
    ⟨.store 1, [.tmp 11, .tmp 10], none, none⟩])
    (.seq
    (.region [
    ⟨.mov, [.loc 4], none, none⟩,
    ⟨.load (some 6), [.loc 2], none, none⟩,
    ⟨.mov, [.loc 5], none, none⟩,
    ⟨.call 164, [.tmp 1, .tmp 2], none, none⟩,
    ⟨.mov, [.loc 1], none, none⟩,
    ⟨.mov, [.loc 5], none, none⟩,
    ⟨.bin .mul, [.c (.int .i64 4), .tmp 5], none, none⟩,
    ⟨.bin .add, [.tmp 6, .c (.int .i64 3)], none, none⟩,
    ⟨.call 158, [.tmp 4, .tmp 7], none, none⟩,
    ⟨.bin .quo, [.tmp 8, .c (.int .i64 9)], none, none⟩,
    ⟨.bin .rem, [.tmp 9, .c (.int .i64 4)], none, none⟩,
    ⟨.conv .u64, [.tmp 10], none, none⟩,
    ⟨.iaddr 1 none, [.tmp 0, .tmp 3], none, none⟩,
    ⟨.store 1, [.tmp 12, .tmp 11], none, none⟩])
    (.region [
    ⟨.mov, [.loc 4], none, none⟩,
    ⟨.load (some 6), [.loc 2], none, none⟩,
    ⟨.mov, [.loc 5], none, none⟩,
    ⟨.call 165, [.tmp 1, .tmp 2], none, none⟩,
    ⟨.mov, [.loc 1], none, none⟩,
    ⟨.mov, [.loc 5], none, none⟩,
    ⟨.bin .mul, [.c (.int .i64 4), .tmp 5], none, none⟩,
    ⟨.bin .add, [.tmp 6, .c (.int .i64 3)], none, none⟩,
    ⟨.call 158, [.tmp 4, .tmp 7], none, none⟩,
    ⟨.bin .quo, [.tmp 8, .c (.int .i64 36)], none, none⟩,
    ⟨.bin .rem, [.tmp 9, .c (.int .i64 2)], none, none⟩,
    ⟨.conv .u64, [.tmp 10], none, none⟩,
    ⟨.iaddr 1 none, [.tmp 0, .tmp 3], none, none⟩,
    ⟨.store 1, [.tmp 12, .tmp 11], none, none⟩])))))))))))
    (.region [
    ⟨.mov, [.loc 5], none, none⟩,
    ⟨.bin .add, [.tmp 0, .c (.int .i64 1)], none, none⟩,
    ⟨.mov, [.tmp 1], some 5, none⟩]))))))
    (.seq
    (.region [
    ⟨.mov, [.loc 4], none, none⟩,
    ⟨.mov, [.tmp 0], some 3, none⟩])
    .ret)))) }
def docs_Ring : AFn := { nloc := 15, npar := 3, res := [.loc 4], body :=
    (.seq
    (.region [
    ⟨.box, [.loc 0], some 3, none⟩,
    ⟨.mov, [.c (.nils)], some 4, none⟩])
    (.seq
    (.region [
    ⟨.mov, [.c (.nils)], some 5, none⟩])
    (.seq
    (.region [
    ⟨.mov, [.loc 1], none, none⟩,
    ⟨.call 47, [.tmp 0], none, none⟩,
    ⟨.mov, [.tmp 1], some 6, none⟩])
    (.seq
    (.seq
    (.region [
    ⟨.mov, [.loc 6], none, none⟩,
    ⟨.len, [.tmp 0], none, none⟩,
    ⟨.load (some 6), [.loc 3], none, none⟩,
    ⟨.call 156, [.tmp 2], none, none⟩,
    ⟨.bin .lss, [.tmp 1, .tmp 3], none, none⟩,
    ⟨.mov, [.tmp 4], none, none⟩,
    ⟨.load (some 6), [.loc 3], none, some (5, false)⟩,
    ⟨.mov, [.loc 2], none, some (5, false)⟩,
    ⟨.call 159, [.tmp 6, .tmp 7], none, some (5, false)⟩,
    ⟨.bin .lss, [.tmp 8, .c (.int .i64 0)], none, some (5, false)⟩,
    ⟨.pick, [.tmp 5, .c (.bool true), .tmp 9], none, none⟩,
    ⟨.mov, [.tmp 10], none, none⟩,
    ⟨.load (some 6), [.loc 3], none, some (11, false)⟩,
    ⟨.mov, [.loc 2], none, some (11, false)⟩,
    ⟨.call 159, [.tmp 12, .tmp 13], none, some (11, false)⟩,
    ⟨.mov, [.loc 6], none, some (11, false)⟩,
    ⟨.len, [.tmp 15], none, some (11, false)⟩,
    ⟨.bin .geq, [.tmp 14, .tmp 16], none, some (11, false)⟩,
    ⟨.pick, [.tmp 11, .c (.bool true), .tmp 17], some 12, none⟩])
    (.cond (.loc 12)
      (.seq
      (.region [
    ⟨.mov, [.c (.nils)], some 4, none⟩])
      .ret)
      .skip))
    (.seq
    (.region [
    ⟨.mov, [.loc 6], none, none⟩,
    ⟨.load (some 6), [.loc 3], none, none⟩,
    ⟨.mov, [.loc 2], none, none⟩,
    ⟨.call 159, [.tmp 1, .tmp 2], none, none⟩,
    ⟨.iaddr 1 none, [.tmp 0, .tmp 3], none, none⟩,
    ⟨.load none, [.tmp 4], none, none⟩,
    ⟨.mov, [.tmp 5], some 7, none⟩])
    (.seq
    (.region [
    ⟨.mov, [.loc 7], none, none⟩,
    ⟨.shf .shr, [.tmp 0, .c (.int .u64 32)], none, none⟩,
    ⟨.conv .u32, [.tmp 1], none, none⟩,
    ⟨.mov, [.loc 7], none, none⟩,
    ⟨.conv .u32, [.tmp 3], none, none⟩,
    ⟨.mov, [.tmp 2], some 8, none⟩,
    ⟨.mov, [.tmp 4], some 9, none⟩])
    (.seq
    (.seq
    (.region [
    ⟨.mov, [.c (.int .u32 0)], some 10, none⟩])
    (.block 0
    (.loop
    (.seq
    (.seq
    (.region [
    ⟨.mov, [.loc 10], none, none⟩,
    ⟨.mov, [.loc 9], none, none⟩,
    ⟨.mov, [.loc 8], none, none⟩,
    ⟨.bin .sub, [.tmp 1, .tmp 2], none, none⟩,
    ⟨.bin .lss, [.tmp 0, .tmp 3], none, none⟩,
    ⟨.mov, [.tmp 4], none, none⟩,
    ⟨.mov, [.loc 9], none, some (5, true)⟩,
    ⟨.mov, [.loc 8], none, some (5, true)⟩,
    ⟨.bin .sub, [.tmp 6, .tmp 7], none, some (5, true)⟩,
    ⟨.faddr 1, [.loc 3], none, some (5, true)⟩,
    ⟨.load none, [.tmp 9], none, some (5, true)⟩,
    ⟨.conv .u32, [.tmp 10], none, some (5, true)⟩,
    ⟨.bin .leq, [.tmp 8, .tmp 11], none, some (5, true)⟩,
    ⟨.pick, [.tmp 5, .tmp 12, .c (.bool false)], some 13, none⟩])
    (.cond (.loc 13)
      .skip
      (.exit 0)))
    (.seq
    (.block 1
    (.seq
    (.region [
    ⟨.load (some 6), [.loc 3], none, none⟩,
    ⟨.mov, [.loc 2], none, none⟩,
    ⟨.mov, [.loc 8], none, none⟩,
    ⟨.mov, [.loc 10], none, none⟩,
    ⟨.bin .add, [.tmp 2, .tmp 3], none, none⟩,
    ⟨.call 160, [.tmp 0, .tmp 1, .tmp 4], none, none⟩,
    ⟨.mov, [.tmp 5], some 11, none⟩])
    (.seq
    (.seq
    (.region [
    ⟨.mov, [.loc 11], none, none⟩,
    ⟨.bin .lss, [.tmp 0, .c (.int .i64 0)], none, none⟩,
    ⟨.mov, [.tmp 1], none, none⟩,
    ⟨.mov, [.loc 11], none, some (2, false)⟩,
    ⟨.mov, [.loc 6], none, some (2, false)⟩,
    ⟨.len, [.tmp 4], none, some (2, false)⟩,
    ⟨.bin .geq, [.tmp 3, .tmp 5], none, some (2, false)⟩,
    ⟨.pick, [.tmp 2, .c (.bool true), .tmp 6], some 14, none⟩])
    (.cond (.loc 14)
      (.seq
      (.region [
    ⟨.mov, [.c (.nils)], some 4, none⟩])
      .ret)
      .skip))
    (.region [
    ⟨.mov, [.loc 5], none, none⟩,
    ⟨.mov, [.loc 6], none, none⟩,
    ⟨.mov, [.loc 11], none, none⟩,
    ⟨.iaddr 1 none, [.tmp 1, .tmp 2], none, none⟩,
    ⟨.load none, [.tmp 3], none, none⟩,
    ⟨.conv .i64, [.tmp 4], none, none⟩,
    ⟨.lit 1 1 [.int .i64 0] [(0, 1)], [.tmp 5], none, none⟩,
    ⟨.append 1 8, [.tmp 0, .tmp 6], none, none⟩,
    ⟨.mov, [.tmp 7], some 5, none⟩]))))
    (.region [
    ⟨.mov, [.loc 10], none, none⟩,
    ⟨.bin .add, [.tmp 0, .c (.int .u32 1)], none, none⟩,
    ⟨.mov, [.tmp 1], some 10, none⟩]))))))
    (.seq
    (.region [
    ⟨.mov, [.loc 5], none, none⟩,
    ⟨.mov, [.tmp 0], some 4, none⟩])
    .ret)))))))) }
def put_New : AFn := { nloc := 8, npar := 3, res := [.loc 4], body :=
    (.seq
    (.region [
    ⟨.box, [.loc 0], some 3, none⟩,
    ⟨.mov, [.c (.nilp)], some 4, none⟩])
    (.seq
    (.region [
    ⟨.load (some 6), [.loc 3], none, none⟩,
    ⟨.mov, [.loc 1], none, none⟩,
    ⟨.call 206, [.tmp 0, .tmp 1], none, none⟩,
    ⟨.mov, [.loc 2], none, none⟩,
    ⟨.build [.int .i64 0, .int .i64 0, .int .i64 0, .int .i64 0, .int .i64 0, .int .i64 0, .int .i64 0, .int .i64 0, .int .u64 0, .int .u32 0, .int .i64 0, .nils, .nils] [(0, 10), (10, 1)], [.tmp 2, .tmp 3], none, none⟩,
    ⟨.box, [.tmp 4], none, none⟩,
    ⟨.mov, [.tmp 5], some 5, none⟩])
    (.seq
    (.seq
    (.region [
    ⟨.mov, [.loc 2], none, none⟩,
    ⟨.bin .lss, [.tmp 0, .c (.int .i64 0)], some 6, none⟩])
    (.cond (.loc 6)
      (.region [
    ⟨.mov, [.loc 5], none, none⟩,
    ⟨.nilc, [.tmp 0], none, none⟩,
    ⟨.faddr 0, [.tmp 1], none, none⟩,
    ⟨.faddr 7, [.tmp 2], none, none⟩,
    ⟨.store 1, [.tmp 3, .c (.int .i64 0)], none, none⟩])
      .skip))
    (.seq
    (.seq
    (.region [
    ⟨.mov, [.loc 5], none, none⟩,
    ⟨.nilc, [.tmp 0], none, none⟩,
    ⟨.faddr 0, [.tmp 1], none, none⟩,
    ⟨.faddr 7, [.tmp 2], none, none⟩,
    ⟨.load none, [.tmp 3], none, none⟩,
    ⟨.bin .neq, [.tmp 4, .c (.int .i64 0)], some 7, none⟩])
    (.cond (.loc 7)
      (.region [
    ⟨.mov, [.loc 5], none, none⟩,
    ⟨.mov, [.loc 2], none, none⟩,
    ⟨.lit 1 1 [.int .i64 0] [(0, 1)], [.tmp 1], none, none⟩,
    ⟨.nilc, [.tmp 0], none, none⟩,
    ⟨.faddr 12, [.tmp 3], none, none⟩,
    ⟨.store 1, [.tmp 4, .tmp 2], none, none⟩])
      .skip))
    (.seq
    (.region [
    ⟨.mov, [.loc 5], none, none⟩,
    ⟨.mov, [.tmp 0], some 4, none⟩])
    .ret))))) }
def put_Put_Step : AFn := { nloc := 4, npar := 2, res := [.loc 2], body :=
    (.seq
    (.region [
    ⟨.mov, [.c (.bool false)], some 2, none⟩])
    (.seq
    (.seq
    (.region [
    ⟨.mov, [.loc 0], none, none⟩,
    ⟨.call 191, [.tmp 0], none, none⟩,
    ⟨.not, [.tmp 1], some 3, none⟩])
    (.cond (.loc 3)
      (.draw [0, 1, 2, 3, 4, 5, 6, 7, 8, 9] 0 [
    ⟨.call 207, [], none, none⟩,
    ⟨.mov, [.loc 0], none, none⟩,
    ⟨.nilc, [.tmp 1], none, none⟩,
    ⟨.faddr 0, [.tmp 2], none, none⟩,
    ⟨.faddr 7, [.tmp 3], none, none⟩,
    ⟨.load none, [.tmp 4], none, none⟩,
    ⟨.index 6 1 none, [.tmp 0, .tmp 5], none, none⟩,
    ⟨.mov, [.loc 0], none, none⟩,
    ⟨.mov, [.loc 1], none, none⟩,
    ⟨.callv, [.tmp 6, .tmp 7, .tmp 8], none, none⟩] [(5, [0])])
      .skip))
    (.seq
    (.region [
    ⟨.mov, [.loc 0], none, none⟩,
    ⟨.call 191, [.tmp 0], none, none⟩,
    ⟨.mov, [.tmp 1], some 2, none⟩])
    .ret))) }
def docs_Thief : AFn := { nloc := 11, npar := 4, res := [.loc 5], body :=
    (.seq
    (.region [
    ⟨.box, [.loc 0], some 4, none⟩,
    ⟨.mov, [.c (.nils)], some 5, none⟩])
    (.seq
    (.region [
    ⟨.load (some 6), [.loc 4], none, none⟩,
    ⟨.mov, [.loc 1], none, none⟩,
    ⟨.mov, [.loc 2], none, none⟩,
    ⟨.call 136, [.tmp 0, .tmp 1, .tmp 2], none, none⟩,
    ⟨.mov, [.tmp 3], some 6, none⟩])
    (.seq
    (.region [
    ⟨.mov, [.loc 3], none, none⟩,
    ⟨.mov, [.loc 6], none, none⟩,
    ⟨.len, [.tmp 1], none, none⟩,
    ⟨.mov, [.loc 6], none, none⟩,
    ⟨.len, [.tmp 3], none, none⟩,
    ⟨.bin .quo, [.tmp 4, .c (.int .i64 2)], none, none⟩,
    ⟨.bin .sub, [.tmp 2, .tmp 5], none, none⟩,
    ⟨.min, [.tmp 0, .tmp 6], none, none⟩,
    ⟨.mov, [.tmp 7], some 7, none⟩])
    (.seq
    (.seq
    (.region [
    ⟨.mov, [.loc 7], none, none⟩,
    ⟨.bin .leq, [.tmp 0, .c (.int .i64 0)], some 10, none⟩])
    (.cond (.loc 10)
      (.seq
      (.region [
    ⟨.mov, [.c (.nils)], some 5, none⟩])
      .ret)
      .skip))
    (.seq
    (.region [
    ⟨.load (some 6), [.loc 4], none, none⟩,
    ⟨.mov, [.loc 2], none, none⟩,
    ⟨.call 159, [.tmp 0, .tmp 1], none, none⟩,
    ⟨.mov, [.tmp 2], some 8, none⟩])
    (.seq
    (.region [
    ⟨.mov, [.loc 1], none, none⟩,
    ⟨.mov, [.loc 8], none, none⟩,
    ⟨.call 24, [.tmp 0, .tmp 1], none, none⟩,
    ⟨.mov, [.tmp 2], some 9, none⟩])
    (.seq
    (.region [
    ⟨.mov, [.loc 1], none, none⟩,
    ⟨.mov, [.loc 8], none, none⟩,
    ⟨.mov, [.loc 9], none, none⟩,
    ⟨.shf .shr, [.tmp 2, .c (.int .u64 32)], none, none⟩,
    ⟨.conv .u32, [.tmp 3], none, none⟩,
    ⟨.mov, [.loc 7], none, none⟩,
    ⟨.conv .u32, [.tmp 5], none, none⟩,
    ⟨.bin .add, [.tmp 4, .tmp 6], none, none⟩,
    ⟨.conv .u64, [.tmp 7], none, none⟩,
    ⟨.shf .shl, [.tmp 8, .c (.int .u64 32)], none, none⟩,
    ⟨.mov, [.loc 9], none, none⟩,
    ⟨.conv .u32, [.tmp 10], none, none⟩,
    ⟨.conv .u64, [.tmp 11], none, none⟩,
    ⟨.bin .or, [.tmp 9, .tmp 12], none, none⟩,
    ⟨.call 22, [.tmp 0, .tmp 1, .tmp 13], none, none⟩])
    (.seq
    (.region [
    ⟨.mov, [.loc 6], none, none⟩,
    ⟨.mov, [.loc 7], none, none⟩,
    ⟨.slice 1 false true false, [.tmp 0, .tmp 1], none, none⟩,
    ⟨.mov, [.tmp 2], some 5, none⟩])
    .ret)))))))) }
def put_Put_Over : AFn := { nloc := 3, npar := 1, res := [.loc 1], body :=
    (.seq
    (.region [
    ⟨.mov, [.c (.nils)], some 1, none⟩])
    (.seq
    (.seq
    (.region [
    ⟨.mov, [.loc 0], none, none⟩,
    ⟨.eqv .ptr false, [.tmp 0, .c (.nilp)], none, none⟩,
    ⟨.mov, [.tmp 1], none, none⟩,
    ⟨.mov, [.loc 0], none, some (2, false)⟩,
    ⟨.nilc, [.tmp 3], none, some (2, false)⟩,
    ⟨.faddr 0, [.tmp 4], none, some (2, false)⟩,
    ⟨.faddr 7, [.tmp 5], none, some (2, false)⟩,
    ⟨.load none, [.tmp 6], none, some (2, false)⟩,
    ⟨.bin .neq, [.tmp 7, .c (.int .i64 0)], none, some (2, false)⟩,
    ⟨.pick, [.tmp 2, .c (.bool true), .tmp 8], some 2, none⟩])
    (.cond (.loc 2)
      (.seq
      (.region [
    ⟨.mov, [.c (.nils)], some 1, none⟩])
      .ret)
      .skip))
    (.seq
    (.region [
    ⟨.mov, [.loc 0], none, none⟩,
    ⟨.nilc, [.tmp 0], none, none⟩,
    ⟨.faddr 12, [.tmp 1], none, none⟩,
    ⟨.load none, [.tmp 2], none, none⟩,
    ⟨.call 208, [.tmp 3], none, none⟩,
    ⟨.mov, [.tmp 4], some 1, none⟩])
    .ret))) }
def kit_SameInts : AFn := { nloc := 7, npar := 2, res := [.loc 2], body :=
    (.seq
    (.region [
    ⟨.mov, [.c (.bool false)], some 2, none⟩])
    (.seq
    (.seq
    (.region [
    ⟨.mov, [.loc 0], none, none⟩,
    ⟨.len, [.tmp 0], none, none⟩,
    ⟨.mov, [.loc 1], none, none⟩,
    ⟨.len, [.tmp 2], none, none⟩,
    ⟨.bin .neq, [.tmp 1, .tmp 3], some 4, none⟩])
    (.cond (.loc 4)
      (.seq
      (.region [
    ⟨.mov, [.c (.bool false)], some 2, none⟩])
      .ret)
      .skip))
    (.seq
    (.seq
    (.region [
    ⟨.mov, [.c (.int .i64 0)], some 3, none⟩])
    (.block 0
    (.loop
    (.seq
    (.seq
    (.region [
    ⟨.mov, [.loc 3], none, none⟩,
    ⟨.mov, [.loc 0], none, none⟩,
    ⟨.len, [.tmp 1], none, none⟩,
    ⟨.bin .lss, [.tmp 0, .tmp 2], some 5, none⟩])
    (.cond (.loc 5)
      .skip
      (.exit 0)))
    (.seq
    (.block 1
    (.seq
    (.region [
    ⟨.mov, [.loc 0], none, none⟩,
    ⟨.mov, [.loc 3], none, none⟩,
    ⟨.iaddr 1 none, [.tmp 0, .tmp 1], none, none⟩,
    ⟨.load none, [.tmp 2], none, none⟩,
    ⟨.mov, [.loc 1], none, none⟩,
    ⟨.mov, [.loc 3], none, none⟩,
    ⟨.iaddr 1 none, [.tmp 4, .tmp 5], none, none⟩,
    ⟨.load none, [.tmp 6], none, none⟩,
    ⟨.bin .neq, [.tmp 3, .tmp 7], some 6, none⟩])
    (.cond (.loc 6)
      (.seq
      (.region [
    ⟨.mov, [.c (.bool false)], some 2, none⟩])
      .ret)
      .skip)))
    (.region [
    ⟨.mov, [.loc 3], none, none⟩,
    ⟨.bin .add, [.tmp 0, .c (.int .i64 1)], none, none⟩,
    ⟨.mov, [.tmp 1], some 3, none⟩]))))))
    (.seq
    (.region [
    ⟨.mov, [.c (.bool true)], some 2, none⟩])
    .ret)))) }
def put_Put_Done : AFn := { nloc := 2, npar := 1, res := [.loc 1], body :=
    (.seq
    (.region [
    ⟨.mov, [.c (.bool false)], some 1, none⟩])
    (.seq
    (.region [
    ⟨.mov, [.loc 0], none, none⟩,
    ⟨.eqv .ptr false, [.tmp 0, .c (.nilp)], none, none⟩,
    ⟨.mov, [.tmp 1], none, none⟩,
    ⟨.mov, [.loc 0], none, some (2, false)⟩,
    ⟨.nilc, [.tmp 3], none, some (2, false)⟩,
    ⟨.faddr 0, [.tmp 4], none, some (2, false)⟩,
    ⟨.faddr 7, [.tmp 5], none, some (2, false)⟩,
    ⟨.load none, [.tmp 6], none, some (2, false)⟩,
    ⟨.bin .eql, [.tmp 7, .c (.int .i64 0)], none, some (2, false)⟩,
    ⟨.pick, [.tmp 2, .c (.bool true), .tmp 8], none, none⟩,
    ⟨.mov, [.tmp 9], some 1, none⟩])
    .ret)) }
def cell_New : AFn := { nloc := 2, npar := 1, res := [.loc 1], body :=
    (.seq
    (.region [
    ⟨.mov, [.c (.nilp)], some 1, none⟩])
    (.seq
    (.region [
    ⟨.mov, [.loc 0], none, none⟩,
    ⟨.min, [.tmp 0, .c (.int .i64 65536)], none, none⟩,
    ⟨.max, [.c (.int .i64 0), .tmp 1], none, none⟩,
    ⟨.make 1 8 [.int .u64 0], [.tmp 2, .tmp 2], none, none⟩,
    ⟨.build [.int .u64 0, .int .u64 0, .int .u64 0, .int .u64 0, .int .u64 0, .int .u64 0, .nils, .nils] [(7, 1)], [.tmp 3], none, none⟩,
    ⟨.box, [.tmp 4], none, none⟩,
    ⟨.mov, [.tmp 5], some 1, none⟩])
    .ret)) }
def put_Lay_Step : AFn := { nloc := 9, npar := 2, res := [.loc 2], body :=
    (.seq
    (.region [
    ⟨.mov, [.c (.bool false)], some 2, none⟩])
    (.seq
    (.block 0
    (.seq
    (.region [
    ⟨.mov, [.loc 0], none, none⟩,
    ⟨.call 196, [.tmp 0], none, none⟩,
    ⟨.mov, [.tmp 1], some 3, none⟩])
    (.cond (.loc 3)
      (.seq
      (.region [
    ⟨.mov, [.c (.bool true)], some 2, none⟩])
      .ret)
      (.seq
      (.region [
    ⟨.mov, [.loc 0], none, none⟩,
    ⟨.nilc, [.tmp 0], none, none⟩,
    ⟨.faddr 11, [.tmp 1], none, none⟩,
    ⟨.load none, [.tmp 2], none, none⟩,
    ⟨.len, [.tmp 3], none, none⟩,
    ⟨.bin .eql, [.tmp 4, .c (.int .i64 0)], none, none⟩,
    ⟨.mov, [.tmp 5], some 4, none⟩])
      (.cond (.loc 4)
        (.region [
    ⟨.mov, [.loc 0], none, none⟩,
    ⟨.nilc, [.tmp 0], none, none⟩,
    ⟨.faddr 0, [.tmp 1], none, none⟩,
    ⟨.faddr 7, [.tmp 2], none, none⟩,
    ⟨.store 1, [.tmp 3, .c (.int .i64 0)], none, none⟩])
        (.seq
        (.region [
    ⟨.mov, [.loc 0], none, none⟩,
    ⟨.nilc, [.tmp 0], none, none⟩,
    ⟨.faddr 0, [.tmp 1], none, none⟩,
    ⟨.faddr 7, [.tmp 2], none, none⟩,
    ⟨.load none, [.tmp 3], none, none⟩,
    ⟨.bin .eql, [.tmp 4, .c (.int .i64 1)], none, none⟩,
    ⟨.mov, [.tmp 5], some 5, none⟩])
        (.cond (.loc 5)
          (.region [
    ⟨.mov, [.loc 0], none, none⟩,
    ⟨.mov, [.loc 1], none, none⟩,
    ⟨.call 209, [.tmp 0, .tmp 1], none, none⟩])
          (.seq
          (.region [
    ⟨.mov, [.loc 0], none, none⟩,
    ⟨.nilc, [.tmp 0], none, none⟩,
    ⟨.faddr 0, [.tmp 1], none, none⟩,
    ⟨.faddr 7, [.tmp 2], none, none⟩,
    ⟨.load none, [.tmp 3], none, none⟩,
    ⟨.bin .eql, [.tmp 4, .c (.int .i64 2)], none, none⟩,
    ⟨.mov, [.tmp 5], some 6, none⟩])
          (.cond (.loc 6)
            (.seq
            (.draw [0, 1, 2, 3, 4, 5, 6, 7, 8, 9, 10, 11, 12, 13, 14, 15, 16, 17, 18, 19, 20, 21, 22, 23] 0 [
    ⟨.mov, [.loc 1], none, none⟩,
    ⟨.mov, [.loc 0], none, none⟩,
    ⟨.nilc, [.tmp 1], none, none⟩,
    ⟨.faddr 0, [.tmp 2], none, none⟩,
    ⟨.mov, [.loc 0], none, none⟩,
    ⟨.nilc, [.tmp 4], none, none⟩,
    ⟨.faddr 0, [.tmp 5], none, none⟩,
    ⟨.faddr 9, [.tmp 6], none, none⟩,
    ⟨.load none, [.tmp 7], none, none⟩,
    ⟨.conv .i64, [.tmp 8], none, none⟩,
    ⟨.call 210, [.tmp 3, .tmp 9], none, none⟩,
    ⟨.mov, [.loc 0], none, none⟩,
    ⟨.nilc, [.tmp 11], none, none⟩,
    ⟨.faddr 11, [.tmp 12], none, none⟩,
    ⟨.load none, [.tmp 13], none, none⟩,
    ⟨.mov, [.loc 0], none, none⟩,
    ⟨.nilc, [.tmp 15], none, none⟩,
    ⟨.faddr 0, [.tmp 16], none, none⟩,
    ⟨.faddr 9, [.tmp 17], none, none⟩,
    ⟨.load none, [.tmp 18], none, none⟩,
    ⟨.iaddr 1 none, [.tmp 14, .tmp 19], none, none⟩,
    ⟨.load none, [.tmp 20], none, none⟩,
    ⟨.conv .u64, [.tmp 21], none, none⟩,
    ⟨.call 22, [.tmp 0, .tmp 10, .tmp 22], none, none⟩] [(14, [0]), (19, [0]), (21, [0])])
            (.seq
            (.region [
    ⟨.mov, [.loc 0], none, none⟩,
    ⟨.nilc, [.tmp 0], none, none⟩,
    ⟨.faddr 0, [.tmp 1], none, none⟩,
    ⟨.faddr 9, [.tmp 2], none, none⟩,
    ⟨.load none, [.tmp 3], none, none⟩,
    ⟨.bin .add, [.tmp 4, .c (.int .u32 1)], none, none⟩,
    ⟨.nilc, [.tmp 0], none, none⟩,
    ⟨.faddr 0, [.tmp 6], none, none⟩,
    ⟨.faddr 9, [.tmp 7], none, none⟩,
    ⟨.store 1, [.tmp 8, .tmp 5], none, none⟩])
            (.seq
            (.region [
    ⟨.mov, [.loc 0], none, none⟩,
    ⟨.nilc, [.tmp 0], none, none⟩,
    ⟨.faddr 0, [.tmp 1], none, none⟩,
    ⟨.faddr 9, [.tmp 2], none, none⟩,
    ⟨.load none, [.tmp 3], none, none⟩,
    ⟨.mov, [.loc 0], none, none⟩,
    ⟨.nilc, [.tmp 5], none, none⟩,
    ⟨.faddr 10, [.tmp 6], none, none⟩,
    ⟨.load none, [.tmp 7], none, none⟩,
    ⟨.bin .eql, [.tmp 4, .tmp 8], some 7, none⟩])
            (.cond (.loc 7)
              (.region [
    ⟨.mov, [.loc 0], none, none⟩,
    ⟨.nilc, [.tmp 0], none, none⟩,
    ⟨.faddr 0, [.tmp 1], none, none⟩,
    ⟨.faddr 7, [.tmp 2], none, none⟩,
    ⟨.store 1, [.tmp 3, .c (.int .i64 3)], none, none⟩])
              .skip))))
            (.seq
            (.region [
    ⟨.mov, [.loc 0], none, none⟩,
    ⟨.nilc, [.tmp 0], none, none⟩,
    ⟨.faddr 0, [.tmp 1], none, none⟩,
    ⟨.mov, [.loc 1], none, none⟩,
    ⟨.mov, [.loc 0], none, none⟩,
    ⟨.nilc, [.tmp 4], none, none⟩,
    ⟨.faddr 0, [.tmp 5], none, none⟩,
    ⟨.faddr 8, [.tmp 6], none, none⟩,
    ⟨.load none, [.tmp 7], none, none⟩,
    ⟨.mov, [.loc 0], none, none⟩,
    ⟨.nilc, [.tmp 9], none, none⟩,
    ⟨.faddr 10, [.tmp 10], none, none⟩,
    ⟨.load none, [.tmp 11], none, none⟩,
    ⟨.call 211, [.tmp 8, .tmp 12], none, none⟩,
    ⟨.call 212, [.tmp 2, .tmp 3, .tmp 13], none, none⟩,
    ⟨.mov, [.tmp 14], some 8, none⟩])
            (.cond (.loc 8)
              (.region [
    ⟨.mov, [.loc 0], none, none⟩,
    ⟨.mov, [.loc 0], none, none⟩,
    ⟨.nilc, [.tmp 1], none, none⟩,
    ⟨.faddr 11, [.tmp 2], none, none⟩,
    ⟨.load none, [.tmp 3], none, none⟩,
    ⟨.mov, [.loc 0], none, none⟩,
    ⟨.nilc, [.tmp 5], none, none⟩,
    ⟨.faddr 10, [.tmp 6], none, none⟩,
    ⟨.load none, [.tmp 7], none, none⟩,
    ⟨.slice 1 true false false, [.tmp 4, .tmp 8], none, none⟩,
    ⟨.nilc, [.tmp 0], none, none⟩,
    ⟨.faddr 11, [.tmp 10], none, none⟩,
    ⟨.store 1, [.tmp 11, .tmp 9], none, none⟩])
              .skip)))))))))))
    (.seq
    (.region [
    ⟨.mov, [.loc 0], none, none⟩,
    ⟨.nilc, [.tmp 0], none, none⟩,
    ⟨.faddr 0, [.tmp 1], none, none⟩,
    ⟨.faddr 7, [.tmp 2], none, none⟩,
    ⟨.load none, [.tmp 3], none, none⟩,
    ⟨.bin .eql, [.tmp 4, .c (.int .i64 0)], none, none⟩,
    ⟨.mov, [.tmp 5], some 2, none⟩])
    .ret))) }
def put_Lay_Done : AFn := { nloc := 2, npar := 1, res := [.loc 1], body :=
    (.seq
    (.region [
    ⟨.mov, [.c (.bool false)], some 1, none⟩])
    (.seq
    (.region [
    ⟨.mov, [.loc 0], none, none⟩,
    ⟨.eqv .ptr false, [.tmp 0, .c (.nilp)], none, none⟩,
    ⟨.mov, [.tmp 1], none, none⟩,
    ⟨.mov, [.loc 0], none, some (2, false)⟩,
    ⟨.nilc, [.tmp 3], none, some (2, false)⟩,
    ⟨.faddr 0, [.tmp 4], none, some (2, false)⟩,
    ⟨.faddr 7, [.tmp 5], none, some (2, false)⟩,
    ⟨.load none, [.tmp 6], none, some (2, false)⟩,
    ⟨.bin .eql, [.tmp 7, .c (.int .i64 0)], none, some (2, false)⟩,
    ⟨.pick, [.tmp 2, .c (.bool true), .tmp 8], none, none⟩,
    ⟨.mov, [.tmp 9], some 1, none⟩])
    .ret)) }
def put_Lay_Hands : AFn := { nloc := 3, npar := 1, res := [.loc 1], body :=
    (.seq
    (.region [
    ⟨.mov, [.c (.nils)], some 1, none⟩])
    (.seq
    (.seq
    (.region [
    ⟨.mov, [.loc 0], none, none⟩,
    ⟨.eqv .ptr false, [.tmp 0, .c (.nilp)], some 2, none⟩])
    (.cond (.loc 2)
      (.seq
      (.region [
    ⟨.mov, [.c (.nils)], some 1, none⟩])
      .ret)
      .skip))
    (.seq
    (.region [
    ⟨.mov, [.loc 0], none, none⟩,
    ⟨.nilc, [.tmp 0], none, none⟩,
    ⟨.faddr 11, [.tmp 1], none, none⟩,
    ⟨.load none, [.tmp 2], none, none⟩,
    ⟨.call 208, [.tmp 3], none, none⟩,
    ⟨.mov, [.tmp 4], some 1, none⟩])
    .ret))) }
def conf_Config_Cells : AFn := { nloc := 4, npar := 1, res := [.loc 2], body :=
    (.seq
    (.region [
    ⟨.box, [.loc 0], some 1, none⟩,
    ⟨.mov, [.c (.int .i64 0)], some 2, none⟩])
    (.seq
    (.seq
    (.region [
    ⟨.load (some 6), [.loc 1], none, none⟩,
    ⟨.call 157, [.tmp 0], none, none⟩,
    ⟨.not, [.tmp 1], some 3, none⟩])
    (.cond (.loc 3)
      (.seq
      (.region [
    ⟨.mov, [.c (.int .i64 0)], some 2, none⟩])
      .ret)
      .skip))
    (.seq
    (.region [
    ⟨.faddr 0, [.loc 1], none, none⟩,
    ⟨.load none, [.tmp 0], none, none⟩,
    ⟨.faddr 1, [.loc 1], none, none⟩,
    ⟨.load none, [.tmp 2], none, none⟩,
    ⟨.bin .add, [.c (.int .i64 6), .tmp 3], none, none⟩,
    ⟨.bin .mul, [.tmp 1, .tmp 4], none, none⟩,
    ⟨.bin .add, [.c (.int .i64 4), .tmp 5], none, none⟩,
    ⟨.mov, [.tmp 6], some 2, none⟩])
    .ret))) }
def cell_Mem_Store : AFn := { nloc := 4, npar := 3, res := [], body :=
    (.seq
    (.region [
    ⟨.box, [.loc 2], some 3, none⟩])
    (.region [
    ⟨.mov, [.loc 0], none, none⟩,
    ⟨.mov, [.loc 1], none, none⟩,
    ⟨.mkfn 49 0, [.loc 3], none, none⟩,
    ⟨.call 50, [.tmp 0, .c (.int .i64 2), .tmp 1, .tmp 2], none, none⟩])) }
def conf_Config_Word : AFn := { nloc := 4, npar := 2, res := [.loc 3], body :=
    (.seq
    (.region [
    ⟨.box, [.loc 0], some 2, none⟩,
    ⟨.mov, [.c (.int .i64 0)], some 3, none⟩])
    (.seq
    (.region [
    ⟨.load (some 6), [.loc 2], none, none⟩,
    ⟨.mov, [.loc 1], none, none⟩,
    ⟨.build [.int .i64 0, .int .i64 0, .int .i64 0, .int .i64 0, .int .i64 0, .int .i64 0, .int .i64 0] [(0, 6), (6, 1)], [.tmp 0, .tmp 1], none, none⟩,
    ⟨.call 177, [.tmp 2, .c (.int .i64 0)], none, none⟩,
    ⟨.mov, [.tmp 3], some 3, none⟩])
    .ret)) }
def put_NewLay : AFn := { nloc := 7, npar := 3, res := [.loc 4], body :=
    (.seq
    (.region [
    ⟨.box, [.loc 0], some 3, none⟩,
    ⟨.mov, [.c (.nilp)], some 4, none⟩])
    (.seq
    (.region [
    ⟨.load (some 6), [.loc 3], none, none⟩,
    ⟨.mov, [.loc 1], none, none⟩,
    ⟨.call 206, [.tmp 0, .tmp 1], none, none⟩,
    ⟨.build [.int .i64 0, .int .i64 0, .int .i64 0, .int .i64 0, .int .i64 0, .int .i64 0, .int .i64 0, .int .i64 0, .int .u64 0, .int .u32 0, .int .u32 0, .nils] [(0, 10)], [.tmp 2], none, none⟩,
    ⟨.box, [.tmp 3], none, none⟩,
    ⟨.mov, [.tmp 4], some 5, none⟩])
    (.seq
    (.seq
    (.region [
    ⟨.mov, [.loc 5], none, none⟩,
    ⟨.nilc, [.tmp 0], none, none⟩,
    ⟨.faddr 0, [.tmp 1], none, none⟩,
    ⟨.faddr 7, [.tmp 2], none, none⟩,
    ⟨.load none, [.tmp 3], none, none⟩,
    ⟨.bin .neq, [.tmp 4, .c (.int .i64 0)], some 6, none⟩])
    (.cond (.loc 6)
      (.region [
    ⟨.mov, [.loc 5], none, none⟩,
    ⟨.mov, [.loc 2], none, none⟩,
    ⟨.call 208, [.tmp 1], none, none⟩,
    ⟨.call 95, [.tmp 2, .c (.fn 213 [] [])], none, none⟩,
    ⟨.nilc, [.tmp 0], none, none⟩,
    ⟨.faddr 11, [.tmp 4], none, none⟩,
    ⟨.store 1, [.tmp 5, .tmp 3], none, none⟩])
      .skip))
    (.seq
    (.region [
    ⟨.mov, [.loc 5], none, none⟩,
    ⟨.mov, [.tmp 0], some 4, none⟩])
    .ret)))) }
def ref06_New : AFn := { nloc := 2, npar := 1, res := [.cell 1 (some 2)], body :=
    (.seq
    (.region [
    ⟨.alloc [.nils, .int .u64 0], [], some 1, none⟩])
    (.seq
    (.region [
    ⟨.mov, [.loc 0], none, none⟩,
    ⟨.min, [.tmp 0, .c (.int .i64 65536)], none, none⟩,
    ⟨.max, [.c (.int .i64 0), .tmp 1], none, none⟩,
    ⟨.make 1 8 [.int .u64 0], [.tmp 2, .tmp 2], none, none⟩,
    ⟨.build [.nils, .int .u64 0] [(0, 1)], [.tmp 3], none, none⟩,
    ⟨.store 2, [.loc 1, .tmp 4], none, none⟩])
    .ret)) }
def ref06_Store : AFn := { nloc := 6, npar := 3, res := [.cell 4 (some 2)], body :=
    (.seq
    (.region [
    ⟨.box, [.loc 0], some 3, none⟩,
    ⟨.alloc [.nils, .int .u64 0], [], some 4, none⟩])
    (.seq
    (.seq
    (.region [
    ⟨.load (some 2), [.loc 3], none, none⟩,
    ⟨.mov, [.loc 1], none, none⟩,
    ⟨.call 72, [.tmp 0, .tmp 1], none, none⟩,
    ⟨.not, [.tmp 2], some 5, none⟩])
    (.cond (.loc 5)
      (.seq
      (.region [
    ⟨.load (some 2), [.loc 3], none, none⟩,
    ⟨.store 2, [.loc 4, .tmp 0], none, none⟩])
      .ret)
      .skip))
    (.seq
    (.region [
    ⟨.load (some 2), [.loc 3], none, none⟩,
    ⟨.mov, [.loc 1], none, none⟩,
    ⟨.mov, [.loc 2], none, none⟩,
    ⟨.call 73, [.tmp 0, .tmp 1, .tmp 2], none, none⟩,
    ⟨.store 2, [.loc 4, .tmp 3], none, none⟩])
    .ret))) }
def conf_Config_Right : AFn := { nloc := 3, npar := 1, res := [.loc 2], body :=
    (.seq
    (.region [
    ⟨.box, [.loc 0], some 1, none⟩,
    ⟨.mov, [.c (.bool false)], some 2, none⟩])
    (.seq
    (.region [
    ⟨.faddr 0, [.loc 1], none, none⟩,
    ⟨.load none, [.tmp 0], none, none⟩,
    ⟨.call 176, [.tmp 1, .c (.int .i64 1), .c (.int .i64 8)], none, none⟩,
    ⟨.mov, [.tmp 2], none, none⟩,
    ⟨.faddr 1, [.loc 1], none, some (3, true)⟩,
    ⟨.load none, [.tmp 4], none, some (3, true)⟩,
    ⟨.call 176, [.tmp 5, .c (.int .i64 2), .c (.int .i64 64)], none, some (3, true)⟩,
    ⟨.pick, [.tmp 3, .tmp 6, .c (.bool false)], none, none⟩,
    ⟨.mov, [.tmp 7], none, none⟩,
    ⟨.faddr 1, [.loc 1], none, some (8, true)⟩,
    ⟨.load none, [.tmp 9], none, some (8, true)⟩,
    ⟨.faddr 1, [.loc 1], none, some (8, true)⟩,
    ⟨.load none, [.tmp 11], none, some (8, true)⟩,
    ⟨.bin .sub, [.tmp 12, .c (.int .i64 1)], none, some (8, true)⟩,
    ⟨.bin .and, [.tmp 10, .tmp 13], none, some (8, true)⟩,
    ⟨.bin .eql, [.tmp 14, .c (.int .i64 0)], none, some (8, true)⟩,
    ⟨.pick, [.tmp 8, .tmp 15, .c (.bool false)], none, none⟩,
    ⟨.mov, [.tmp 16], none, none⟩,
    ⟨.faddr 2, [.loc 1], none, some (17, true)⟩,
    ⟨.load none, [.tmp 18], none, some (17, true)⟩,
    ⟨.call 176, [.tmp 19, .c (.int .i64 1), .c (.int .i64 256)], none, some (17, true)⟩,
    ⟨.pick, [.tmp 17, .tmp 20, .c (.bool false)], none, none⟩,
    ⟨.mov, [.tmp 21], none, none⟩,
    ⟨.faddr 3, [.loc 1], none, some (22, true)⟩,
    ⟨.load none, [.tmp 23], none, some (22, true)⟩,
    ⟨.faddr 0, [.loc 1], none, some (22, true)⟩,
    ⟨.load none, [.tmp 25], none, some (22, true)⟩,
    ⟨.bin .add, [.tmp 26, .c (.int .i64 1)], none, some (22, true)⟩,
    ⟨.call 176, [.tmp 24, .tmp 27, .c (.int .i64 16)], none, some (22, true)⟩,
    ⟨.pick, [.tmp 22, .tmp 28, .c (.bool false)], none, none⟩,
    ⟨.mov, [.tmp 29], none, none⟩,
    ⟨.faddr 4, [.loc 1], none, some (30, true)⟩,
    ⟨.load none, [.tmp 31], none, some (30, true)⟩,
    ⟨.call 176, [.tmp 32, .c (.int .i64 2), .c (.int .i64 200)], none, some (30, true)⟩,
    ⟨.pick, [.tmp 30, .tmp 33, .c (.bool false)], none, none⟩,
    ⟨.mov, [.tmp 34], none, none⟩,
    ⟨.faddr 5, [.loc 1], none, some (35, true)⟩,
    ⟨.load none, [.tmp 36], none, some (35, true)⟩,
    ⟨.call 176, [.tmp 37, .c (.int .i64 0), .c (.int .i64 1000)], none, some (35, true)⟩,
    ⟨.pick, [.tmp 35, .tmp 38, .c (.bool false)], none, none⟩,
    ⟨.mov, [.tmp 39], some 2, none⟩])
    .ret)) }
def docs_byteAt : AFn := { nloc := 4, npar := 2, res := [.loc 2], body :=
    (.seq
    (.region [
    ⟨.mov, [.c (.int .i64 0)], some 2, none⟩])
    (.seq
    (.seq
    (.region [
    ⟨.mov, [.loc 1], none, none⟩,
    ⟨.mov, [.loc 0], none, none⟩,
    ⟨.len, [.tmp 1], none, none⟩,
    ⟨.bin .geq, [.tmp 0, .tmp 2], some 3, none⟩])
    (.cond (.loc 3)
      (.seq
      (.region [
    ⟨.mov, [.c (.int .i64 0)], some 2, none⟩])
      .ret)
      .skip))
    (.seq
    (.region [
    ⟨.mov, [.loc 0], none, none⟩,
    ⟨.mov, [.loc 1], none, none⟩,
    ⟨.iaddr 1 none, [.tmp 0, .tmp 1], none, none⟩,
    ⟨.load none, [.tmp 2], none, none⟩,
    ⟨.conv .i64, [.tmp 3], none, none⟩,
    ⟨.mov, [.tmp 4], some 2, none⟩])
    .ret))) }
def conf_Config_Slot : AFn := { nloc := 6, npar := 3, res := [.loc 4], body :=
    (.seq
    (.region [
    ⟨.box, [.loc 0], some 3, none⟩,
    ⟨.mov, [.c (.int .i64 0)], some 4, none⟩])
    (.seq
    (.seq
    (.region [
    ⟨.load (some 6), [.loc 3], none, none⟩,
    ⟨.call 157, [.tmp 0], none, none⟩,
    ⟨.not, [.tmp 1], some 5, none⟩])
    (.cond (.loc 5)
      (.seq
      (.region [
    ⟨.mov, [.c (.int .i64 (-1))], some 4, none⟩])
      .ret)
      .skip))
    (.seq
    (.region [
    ⟨.load (some 6), [.loc 3], none, none⟩,
    ⟨.mov, [.loc 1], none, none⟩,
    ⟨.build [.int .i64 0, .int .i64 0, .int .i64 0, .int .i64 0, .int .i64 0, .int .i64 0, .int .i64 0] [(0, 6), (6, 1)], [.tmp 0, .tmp 1], none, none⟩,
    ⟨.mov, [.loc 2], none, none⟩,
    ⟨.faddr 1, [.loc 3], none, none⟩,
    ⟨.load none, [.tmp 4], none, none⟩,
    ⟨.conv .u32, [.tmp 5], none, none⟩,
    ⟨.bin .rem, [.tmp 3, .tmp 6], none, none⟩,
    ⟨.conv .i64, [.tmp 7], none, none⟩,
    ⟨.bin .add, [.c (.int .i64 6), .tmp 8], none, none⟩,
    ⟨.call 177, [.tmp 2, .tmp 9], none, none⟩,
    ⟨.mov, [.tmp 10], some 4, none⟩])
    .ret))) }
def conf_Config_Next : AFn := { nloc := 4, npar := 2, res := [.loc 3], body :=
    (.seq
    (.region [
    ⟨.box, [.loc 0], some 2, none⟩,
    ⟨.mov, [.c (.int .i64 0)], some 3, none⟩])
    (.seq
    (.region [
    ⟨.load (some 6), [.loc 2], none, none⟩,
    ⟨.mov, [.loc 1], none, none⟩,
    ⟨.build [.int .i64 0, .int .i64 0, .int .i64 0, .int .i64 0, .int .i64 0, .int .i64 0, .int .i64 0] [(0, 6), (6, 1)], [.tmp 0, .tmp 1], none, none⟩,
    ⟨.call 177, [.tmp 2, .c (.int .i64 1)], none, none⟩,
    ⟨.mov, [.tmp 3], some 3, none⟩])
    .ret)) }
def conf_Config_Stat : AFn := { nloc := 4, npar := 2, res := [.loc 3], body :=
    (.seq
    (.region [
    ⟨.box, [.loc 0], some 2, none⟩,
    ⟨.mov, [.c (.int .i64 0)], some 3, none⟩])
    (.seq
    (.region [
    ⟨.load (some 6), [.loc 2], none, none⟩,
    ⟨.mov, [.loc 1], none, none⟩,
    ⟨.build [.int .i64 0, .int .i64 0, .int .i64 0, .int .i64 0, .int .i64 0, .int .i64 0, .int .i64 0] [(0, 6), (6, 1)], [.tmp 0, .tmp 1], none, none⟩,
    ⟨.call 177, [.tmp 2, .c (.int .i64 2)], none, none⟩,
    ⟨.mov, [.tmp 3], some 3, none⟩])
    .ret)) }
def conf_Config_Tick : AFn := { nloc := 4, npar := 2, res := [.loc 3], body :=
    (.seq
    (.region [
    ⟨.box, [.loc 0], some 2, none⟩,
    ⟨.mov, [.c (.int .i64 0)], some 3, none⟩])
    (.seq
    (.region [
    ⟨.load (some 6), [.loc 2], none, none⟩,
    ⟨.mov, [.loc 1], none, none⟩,
    ⟨.build [.int .i64 0, .int .i64 0, .int .i64 0, .int .i64 0, .int .i64 0, .int .i64 0, .int .i64 0] [(0, 6), (6, 1)], [.tmp 0, .tmp 1], none, none⟩,
    ⟨.call 177, [.tmp 2, .c (.int .i64 3)], none, none⟩,
    ⟨.mov, [.tmp 3], some 3, none⟩])
    .ret)) }
def conf_Config_Sys : AFn := { nloc := 4, npar := 2, res := [.loc 3], body :=
    (.seq
    (.region [
    ⟨.box, [.loc 0], some 2, none⟩,
    ⟨.mov, [.c (.int .i64 0)], some 3, none⟩])
    (.seq
    (.region [
    ⟨.load (some 6), [.loc 2], none, none⟩,
    ⟨.mov, [.loc 1], none, none⟩,
    ⟨.build [.int .i64 0, .int .i64 0, .int .i64 0, .int .i64 0, .int .i64 0, .int .i64 0, .int .i64 0] [(0, 6), (6, 1)], [.tmp 0, .tmp 1], none, none⟩,
    ⟨.call 177, [.tmp 2, .c (.int .i64 4)], none, none⟩,
    ⟨.mov, [.tmp 3], some 3, none⟩])
    .ret)) }
def conf_Config_Flag : AFn := { nloc := 4, npar := 2, res := [.loc 3], body :=
    (.seq
    (.region [
    ⟨.box, [.loc 0], some 2, none⟩,
    ⟨.mov, [.c (.int .i64 0)], some 3, none⟩])
    (.seq
    (.region [
    ⟨.load (some 6), [.loc 2], none, none⟩,
    ⟨.mov, [.loc 1], none, none⟩,
    ⟨.build [.int .i64 0, .int .i64 0, .int .i64 0, .int .i64 0, .int .i64 0, .int .i64 0, .int .i64 0] [(0, 6), (6, 1)], [.tmp 0, .tmp 1], none, none⟩,
    ⟨.call 177, [.tmp 2, .c (.int .i64 5)], none, none⟩,
    ⟨.mov, [.tmp 3], some 3, none⟩])
    .ret)) }
def cell_Mem_All : AFn := { nloc := 3, npar := 1, res := [.loc 1], body :=
    (.seq
    (.region [
    ⟨.mov, [.c (.nils)], some 1, none⟩])
    (.seq
    (.seq
    (.region [
    ⟨.mov, [.loc 0], none, none⟩,
    ⟨.eqv .ptr false, [.tmp 0, .c (.nilp)], some 2, none⟩])
    (.cond (.loc 2)
      (.seq
      (.region [
    ⟨.mov, [.c (.nils)], some 1, none⟩])
      .ret)
      .skip))
    (.seq
    (.region [
    ⟨.mov, [.loc 0], none, none⟩,
    ⟨.nilc, [.tmp 0], none, none⟩,
    ⟨.faddr 7, [.tmp 1], none, none⟩,
    ⟨.load none, [.tmp 2], none, none⟩,
    ⟨.call 61, [.tmp 3], none, none⟩,
    ⟨.mov, [.tmp 4], some 1, none⟩])
    .ret))) }
def put_from : AFn := { nloc := 6, npar := 2, res := [.cell 3 (some 10)], body :=
    (.seq
    (.region [
    ⟨.box, [.loc 0], some 2, none⟩,
    ⟨.alloc [.int .i64 0, .int .i64 0, .int .i64 0, .int .i64 0, .int .i64 0, .int .i64 0, .int .i64 0, .int .i64 0, .int .u64 0, .int .u32 0], [], some 3, none⟩])
    (.seq
    (.region [
    ⟨.load (some 6), [.loc 2], none, none⟩,
    ⟨.mov, [.loc 1], none, none⟩,
    ⟨.build [.int .i64 0, .int .i64 0, .int .i64 0, .int .i64 0, .int .i64 0, .int .i64 0, .int .i64 0, .int .i64 0, .int .u64 0, .int .u32 0] [(0, 6), (6, 1)], [.tmp 0, .tmp 1], none, none⟩,
    ⟨.alloc [.int .i64 0, .int .i64 0, .int .i64 0, .int .i64 0, .int .i64 0, .int .i64 0, .int .i64 0, .int .i64 0, .int .u64 0, .int .u32 0], [], some 4, none⟩,
    ⟨.store 10, [.tmp 3, .tmp 2], none, none⟩])
    (.seq
    (.seq
    (.region [
    ⟨.load (some 6), [.loc 2], none, none⟩,
    ⟨.mov, [.loc 1], none, none⟩,
    ⟨.call 159, [.tmp 0, .tmp 1], none, none⟩,
    ⟨.bin .geq, [.tmp 2, .c (.int .i64 0)], some 5, none⟩])
    (.cond (.loc 5)
      (.region [
    ⟨.faddr 7, [.loc 4], none, none⟩,
    ⟨.store 1, [.tmp 0, .c (.int .i64 1)], none, none⟩])
      .skip))
    (.seq
    (.region [
    ⟨.load (some 10), [.loc 4], none, none⟩,
    ⟨.store 10, [.loc 3, .tmp 0], none, none⟩])
    .ret)))) }
def put_ways : AFn := { nloc := 1, npar := 0, res := [.cell 0 (some 6)], body :=
    (.seq
    (.region [
    ⟨.alloc [.nilf, .nilf, .nilf, .nilf, .nilf, .nilf], [], some 0, none⟩])
    (.seq
    (.region [
    ⟨.build [.nilf, .nilf, .nilf, .nilf, .nilf, .nilf] [(1, 1), (2, 1), (3, 1), (4, 1), (5, 1)], [.c (.fn 214 [] []), .c (.fn 215 [] []), .c (.fn 216 [] []), .c (.fn 217 [] []), .c (.fn 218 [] [])], none, none⟩,
    ⟨.store 6, [.loc 0, .tmp 0], none, none⟩])
    .ret)) }
def cell_Mem_Load : AFn := { nloc := 4, npar := 2, res := [.loc 2], body :=
    (.seq
    (.region [
    ⟨.mov, [.c (.int .u64 0)], some 2, none⟩])
    (.seq
    (.region [
    ⟨.mov, [.loc 0], none, none⟩,
    ⟨.mov, [.loc 1], none, none⟩,
    ⟨.call 50, [.tmp 0, .c (.int .i64 1), .tmp 1, .c (.fn 52 [] [])], none, none⟩,
    ⟨.mov, [.tmp 2], none, none⟩,
    ⟨.extract 0, [.tmp 3], none, none⟩,
    ⟨.extract 1, [.tmp 3], none, none⟩,
    ⟨.mov, [.tmp 4], some 3, none⟩,
    ⟨.mov, [.tmp 5], none, none⟩])
    (.seq
    (.region [
    ⟨.mov, [.loc 3], none, none⟩,
    ⟨.mov, [.tmp 0], some 2, none⟩])
    .ret))) }
def slices_Clone_int : AFn := { nloc := 3, npar := 1, res := [.loc 1], body :=
    (.seq
    (.region [
    ⟨.mov, [.c (.nils)], some 1, none⟩])
    (.seq
    (.seq
    (.region [
    ⟨.mov, [.loc 0], none, none⟩,
    ⟨.eqv .slc false, [.tmp 0, .c (.nils)], some 2, none⟩])
    (.cond (.loc 2)
      (.seq
      (.region [
    ⟨.mov, [.c (.nils)], some 1, none⟩])
      .ret)
      .skip))
    (.seq
    (.region [
    ⟨.lit 0 1 [.int .i64 0] [], [], none, none⟩,
    ⟨.mov, [.loc 0], none, none⟩,
    ⟨.append 1 8, [.tmp 0, .tmp 1], none, none⟩,
    ⟨.mov, [.tmp 2], some 1, none⟩])
    .ret))) }
def put_Lay_look : AFn := { nloc := 4, npar := 2, res := [], body :=
    (.seq
    (.region [
    ⟨.mov, [.loc 0], none, none⟩,
    ⟨.nilc, [.tmp 0], none, none⟩,
    ⟨.faddr 0, [.tmp 1], none, none⟩,
    ⟨.mov, [.loc 1], none, none⟩,
    ⟨.call 219, [.tmp 2, .tmp 3], none, none⟩,
    ⟨.mov, [.tmp 4], some 2, none⟩])
    (.seq
    (.region [
    ⟨.mov, [.loc 0], none, none⟩,
    ⟨.mov, [.loc 0], none, none⟩,
    ⟨.nilc, [.tmp 1], none, none⟩,
    ⟨.faddr 11, [.tmp 2], none, none⟩,
    ⟨.load none, [.tmp 3], none, none⟩,
    ⟨.len, [.tmp 4], none, none⟩,
    ⟨.mov, [.loc 0], none, none⟩,
    ⟨.nilc, [.tmp 6], none, none⟩,
    ⟨.faddr 0, [.tmp 7], none, none⟩,
    ⟨.faddr 0, [.tmp 8], none, none⟩,
    ⟨.faddr 1, [.tmp 9], none, none⟩,
    ⟨.load none, [.tmp 10], none, none⟩,
    ⟨.mov, [.loc 2], none, none⟩,
    ⟨.mov, [.loc 0], none, none⟩,
    ⟨.nilc, [.tmp 13], none, none⟩,
    ⟨.faddr 0, [.tmp 14], none, none⟩,
    ⟨.faddr 0, [.tmp 15], none, none⟩,
    ⟨.faddr 1, [.tmp 16], none, none⟩,
    ⟨.load none, [.tmp 17], none, none⟩,
    ⟨.conv .u32, [.tmp 18], none, none⟩,
    ⟨.min, [.tmp 12, .tmp 19], none, none⟩,
    ⟨.conv .i64, [.tmp 20], none, none⟩,
    ⟨.bin .sub, [.tmp 11, .tmp 21], none, none⟩,
    ⟨.min, [.tmp 5, .tmp 22], none, none⟩,
    ⟨.conv .u32, [.tmp 23], none, none⟩,
    ⟨.nilc, [.tmp 0], none, none⟩,
    ⟨.faddr 10, [.tmp 25], none, none⟩,
    ⟨.store 1, [.tmp 26, .tmp 24], none, none⟩])
    (.seq
    (.region [
    ⟨.mov, [.loc 0], none, none⟩,
    ⟨.nilc, [.tmp 0], none, none⟩,
    ⟨.faddr 0, [.tmp 1], none, none⟩,
    ⟨.faddr 7, [.tmp 2], none, none⟩,
    ⟨.store 1, [.tmp 3, .c (.int .i64 2)], none, none⟩])
    (.seq
    (.region [
    ⟨.mov, [.loc 0], none, none⟩,
    ⟨.nilc, [.tmp 0], none, none⟩,
    ⟨.faddr 10, [.tmp 1], none, none⟩,
    ⟨.load none, [.tmp 2], none, none⟩,
    ⟨.bin .eql, [.tmp 3, .c (.int .u32 0)], some 3, none⟩])
    (.cond (.loc 3)
      (.region [
    ⟨.mov, [.loc 0], none, none⟩,
    ⟨.nilc, [.tmp 0], none, none⟩,
    ⟨.faddr 0, [.tmp 1], none, none⟩,
    ⟨.faddr 7, [.tmp 2], none, none⟩,
    ⟨.store 1, [.tmp 3, .c (.int .i64 0)], none, none⟩])
      .skip))))) }
def put_ring_slot : AFn := { nloc := 3, npar := 2, res := [.loc 2], body :=
    (.seq
    (.region [
    ⟨.mov, [.c (.int .i64 0)], some 2, none⟩])
    (.seq
    (.draw [0, 1, 2, 3, 4, 5, 6, 7, 8, 9, 10, 11, 12, 13, 14, 15, 16, 17] 0 [
    ⟨.mov, [.loc 0], none, none⟩,
    ⟨.nilc, [.tmp 0], none, none⟩,
    ⟨.faddr 0, [.tmp 1], none, none⟩,
    ⟨.load (some 6), [.tmp 2], none, none⟩,
    ⟨.mov, [.loc 0], none, none⟩,
    ⟨.nilc, [.tmp 4], none, none⟩,
    ⟨.faddr 6, [.tmp 5], none, none⟩,
    ⟨.load none, [.tmp 6], none, none⟩,
    ⟨.mov, [.loc 0], none, none⟩,
    ⟨.nilc, [.tmp 8], none, none⟩,
    ⟨.faddr 8, [.tmp 9], none, none⟩,
    ⟨.load none, [.tmp 10], none, none⟩,
    ⟨.call 182, [.tmp 11], none, none⟩,
    ⟨.mov, [.loc 1], none, none⟩,
    ⟨.conv .u32, [.tmp 13], none, none⟩,
    ⟨.bin .add, [.tmp 12, .tmp 14], none, none⟩,
    ⟨.call 160, [.tmp 3, .tmp 7, .tmp 15], none, none⟩,
    ⟨.mov, [.tmp 16], some 2, none⟩] [(3, [13]), (7, [13])])
    .ret)) }
def put_ring_change : AFn := { nloc := 6, npar := 3, res := [.loc 3], body :=
    (.seq
    (.region [
    ⟨.mov, [.c (.bool false)], some 3, none⟩])
    (.seq
    (.draw [0, 1, 2, 3, 4, 5, 6, 7, 8, 9, 10, 11, 12, 13, 14, 15, 16] 0 [
    ⟨.mov, [.loc 1], none, none⟩,
    ⟨.mov, [.loc 0], none, none⟩,
    ⟨.nilc, [.tmp 1], none, none⟩,
    ⟨.faddr 0, [.tmp 2], none, none⟩,
    ⟨.load (some 6), [.tmp 3], none, none⟩,
    ⟨.mov, [.loc 0], none, none⟩,
    ⟨.nilc, [.tmp 5], none, none⟩,
    ⟨.faddr 6, [.tmp 6], none, none⟩,
    ⟨.load none, [.tmp 7], none, none⟩,
    ⟨.call 159, [.tmp 4, .tmp 8], none, none⟩,
    ⟨.mov, [.loc 0], none, none⟩,
    ⟨.nilc, [.tmp 10], none, none⟩,
    ⟨.faddr 8, [.tmp 11], none, none⟩,
    ⟨.load none, [.tmp 12], none, none⟩,
    ⟨.mov, [.loc 2], none, none⟩,
    ⟨.call 23, [.tmp 0, .tmp 9, .tmp 13, .tmp 14], none, none⟩,
    ⟨.mov, [.tmp 15], some 4, none⟩] [(13, [0])])
    (.seq
    (.region [
    ⟨.mov, [.loc 0], none, none⟩,
    ⟨.nilc, [.tmp 0], none, none⟩,
    ⟨.faddr 7, [.tmp 1], none, none⟩,
    ⟨.store 1, [.tmp 2, .c (.int .i64 1)], none, none⟩])
    (.seq
    (.seq
    (.region [
    ⟨.mov, [.loc 4], some 5, none⟩])
    (.cond (.loc 5)
      (.region [
    ⟨.mov, [.loc 0], none, none⟩,
    ⟨.nilc, [.tmp 0], none, none⟩,
    ⟨.faddr 7, [.tmp 1], none, none⟩,
    ⟨.store 1, [.tmp 2, .c (.int .i64 0)], none, none⟩])
      .skip))
    (.seq
    (.region [
    ⟨.mov, [.loc 4], none, none⟩,
    ⟨.mov, [.tmp 0], some 3, none⟩])
    .ret))))) }
def word_Grow : AFn := { nloc := 3, npar := 2, res := [.loc 2], body :=
    (.seq
    (.region [
    ⟨.mov, [.c (.int .u64 0)], some 2, none⟩])
    (.seq
    (.region [
    ⟨.mov, [.loc 0], none, none⟩,
    ⟨.call 179, [.tmp 0], none, none⟩,
    ⟨.mov, [.loc 0], none, none⟩,
    ⟨.call 182, [.tmp 2], none, none⟩,
    ⟨.mov, [.loc 1], none, none⟩,
    ⟨.bin .add, [.tmp 3, .tmp 4], none, none⟩,
    ⟨.call 183, [.tmp 1, .tmp 5], none, none⟩,
    ⟨.mov, [.tmp 6], some 2, none⟩])
    .ret)) }
def cell_Mem_access : AFn := { nloc := 8, npar := 4, res := [.loc 4, .loc 5], body :=
    (.seq
    (.region [
    ⟨.mov, [.c (.int .u64 0)], some 4, none⟩,
    ⟨.mov, [.c (.bool false)], some 5, none⟩])
    (.seq
    (.seq
    (.region [
    ⟨.mov, [.loc 0], none, none⟩,
    ⟨.mov, [.loc 2], none, none⟩,
    ⟨.call 56, [.tmp 0, .tmp 1], none, none⟩,
    ⟨.not, [.tmp 2], some 7, none⟩])
    (.cond (.loc 7)
      (.seq
      (.region [
    ⟨.mov, [.c (.int .u64 0)], some 4, none⟩,
    ⟨.mov, [.c (.bool false)], some 5, none⟩])
      .ret)
      .skip))
    (.seq
    (.region [
    ⟨.mov, [.loc 0], none, none⟩,
    ⟨.nilc, [.tmp 0], none, none⟩,
    ⟨.faddr 7, [.tmp 1], none, none⟩,
    ⟨.load none, [.tmp 2], none, none⟩,
    ⟨.mov, [.loc 2], none, none⟩,
    ⟨.iaddr 1 none, [.tmp 3, .tmp 4], none, none⟩,
    ⟨.load none, [.tmp 5], none, none⟩,
    ⟨.mov, [.tmp 6], some 4, none⟩])
    (.seq
    (.region [
    ⟨.mov, [.loc 3], none, none⟩,
    ⟨.mov, [.loc 4], none, none⟩,
    ⟨.callv, [.tmp 0, .tmp 1], none, none⟩,
    ⟨.mov, [.tmp 2], none, none⟩,
    ⟨.extract 0, [.tmp 3], none, none⟩,
    ⟨.extract 1, [.tmp 3], none, none⟩,
    ⟨.mov, [.tmp 4], some 6, none⟩,
    ⟨.mov, [.tmp 5], some 5, none⟩])
    (.seq
    (.region [
    ⟨.mov, [.loc 0], none, none⟩,
    ⟨.nilc, [.tmp 0], none, none⟩,
    ⟨.faddr 7, [.tmp 1], none, none⟩,
    ⟨.load none, [.tmp 2], none, none⟩,
    ⟨.mov, [.loc 2], none, none⟩,
    ⟨.mov, [.loc 6], none, none⟩,
    ⟨.iaddr 1 none, [.tmp 3, .tmp 4], none, none⟩,
    ⟨.store 1, [.tmp 6, .tmp 5], none, none⟩])
    (.seq
    (.region [
    ⟨.mov, [.loc 0], none, none⟩,
    ⟨.nilc, [.tmp 0], none, none⟩,
    ⟨.faddr 0, [.tmp 1], none, none⟩,
    ⟨.mov, [.loc 1], none, none⟩,
    ⟨.mov, [.loc 2], none, none⟩,
    ⟨.mov, [.loc 4], none, none⟩,
    ⟨.mov, [.loc 6], none, none⟩,
    ⟨.build [.int .i64 0, .int .i64 0, .int .u64 0, .int .u64 0] [(0, 1), (1, 1), (2, 1), (3, 1)], [.tmp 3, .tmp 4, .tmp 5, .tmp 6], none, none⟩,
    ⟨.mov, [.loc 5], none, none⟩,
    ⟨.call 71, [.tmp 2, .tmp 7, .tmp 8], none, none⟩])
    (.seq
    (.region [
    ⟨.mov, [.loc 4], none, none⟩,
    ⟨.mov, [.loc 5], none, none⟩,
    ⟨.mov, [.tmp 0], some 4, none⟩,
    ⟨.mov, [.tmp 1], some 5, none⟩])
    .ret))))))) }
def cell_Mem_Store_1 : AFn := { nloc := 4, npar := 2, res := [.loc 2, .loc 3], body :=
    (.seq
    (.region [
    ⟨.mov, [.c (.int .u64 0)], some 2, none⟩,
    ⟨.mov, [.c (.bool false)], some 3, none⟩])
    (.seq
    (.region [
    ⟨.load none, [.loc 1], none, none⟩,
    ⟨.mov, [.tmp 0], some 2, none⟩,
    ⟨.mov, [.c (.bool true)], some 3, none⟩])
    .ret)) }
def conf_own_at : AFn := { nloc := 5, npar := 2, res := [.loc 3], body :=
    (.seq
    (.region [
    ⟨.box, [.loc 0], some 2, none⟩,
    ⟨.mov, [.c (.int .i64 0)], some 3, none⟩])
    (.seq
    (.seq
    (.region [
    ⟨.faddr 0, [.loc 2], none, none⟩,
    ⟨.load (some 6), [.tmp 0], none, none⟩,
    ⟨.call 157, [.tmp 1], none, none⟩,
    ⟨.not, [.tmp 2], none, none⟩,
    ⟨.mov, [.tmp 3], none, none⟩,
    ⟨.faddr 6, [.loc 2], none, some (4, false)⟩,
    ⟨.load none, [.tmp 5], none, some (4, false)⟩,
    ⟨.faddr 0, [.loc 2], none, some (4, false)⟩,
    ⟨.faddr 0, [.tmp 7], none, some (4, false)⟩,
    ⟨.load none, [.tmp 8], none, some (4, false)⟩,
    ⟨.bin .sub, [.tmp 9, .c (.int .i64 1)], none, some (4, false)⟩,
    ⟨.call 176, [.tmp 6, .c (.int .i64 0), .tmp 10], none, some (4, false)⟩,
    ⟨.not, [.tmp 11], none, some (4, false)⟩,
    ⟨.pick, [.tmp 4, .c (.bool true), .tmp 12], some 4, none⟩])
    (.cond (.loc 4)
      (.seq
      (.region [
    ⟨.mov, [.c (.int .i64 (-1))], some 3, none⟩])
      .ret)
      .skip))
    (.seq
    (.region [
    ⟨.faddr 6, [.loc 2], none, none⟩,
    ⟨.load none, [.tmp 0], none, none⟩,
    ⟨.faddr 0, [.loc 2], none, none⟩,
    ⟨.faddr 1, [.tmp 2], none, none⟩,
    ⟨.load none, [.tmp 3], none, none⟩,
    ⟨.bin .add, [.c (.int .i64 6), .tmp 4], none, none⟩,
    ⟨.bin .mul, [.tmp 1, .tmp 5], none, none⟩,
    ⟨.bin .add, [.c (.int .i64 4), .tmp 6], none, none⟩,
    ⟨.mov, [.loc 1], none, none⟩,
    ⟨.bin .add, [.tmp 7, .tmp 8], none, none⟩,
    ⟨.mov, [.tmp 9], some 3, none⟩])
    .ret))) }
def slices_DeleteFunc_int : AFn := { nloc := 9, npar := 2, res := [.loc 2], body :=
    (.seq
    (.region [
    ⟨.mov, [.c (.nils)], some 2, none⟩])
    (.seq
    (.region [
    ⟨.mov, [.loc 0], none, none⟩,
    ⟨.mov, [.loc 1], none, none⟩,
    ⟨.call 97, [.tmp 0, .tmp 1], none, none⟩,
    ⟨.mov, [.tmp 2], some 3, none⟩])
    (.seq
    (.seq
    (.region [
    ⟨.mov, [.loc 3], none, none⟩,
    ⟨.bin .eql, [.tmp 0, .c (.int .i64 (-1))], some 6, none⟩])
    (.cond (.loc 6)
      (.seq
      (.region [
    ⟨.mov, [.loc 0], none, none⟩,
    ⟨.mov, [.tmp 0], some 2, none⟩])
      .ret)
      .skip))
    (.seq
    (.seq
    (.region [
    ⟨.mov, [.loc 3], none, none⟩,
    ⟨.bin .add, [.tmp 0, .c (.int .i64 1)], none, none⟩,
    ⟨.mov, [.tmp 1], some 4, none⟩])
    (.block 0
    (.loop
    (.seq
    (.seq
    (.region [
    ⟨.mov, [.loc 4], none, none⟩,
    ⟨.mov, [.loc 0], none, none⟩,
    ⟨.len, [.tmp 1], none, none⟩,
    ⟨.bin .lss, [.tmp 0, .tmp 2], some 7, none⟩])
    (.cond (.loc 7)
      .skip
      (.exit 0)))
    (.seq
    (.block 1
    (.seq
    (.region [
    ⟨.mov, [.loc 0], none, none⟩,
    ⟨.mov, [.loc 4], none, none⟩,
    ⟨.iaddr 1 none, [.tmp 0, .tmp 1], none, none⟩,
    ⟨.load none, [.tmp 2], none, none⟩,
    ⟨.mov, [.tmp 3], some 5, none⟩])
    (.seq
    (.region [
    ⟨.mov, [.loc 1], none, none⟩,
    ⟨.mov, [.loc 5], none, none⟩,
    ⟨.callv, [.tmp 0, .tmp 1], none, none⟩,
    ⟨.not, [.tmp 2], some 8, none⟩])
    (.cond (.loc 8)
      (.seq
      (.region [
    ⟨.mov, [.loc 0], none, none⟩,
    ⟨.mov, [.loc 3], none, none⟩,
    ⟨.mov, [.loc 5], none, none⟩,
    ⟨.iaddr 1 none, [.tmp 0, .tmp 1], none, none⟩,
    ⟨.store 1, [.tmp 3, .tmp 2], none, none⟩])
      (.region [
    ⟨.mov, [.loc 3], none, none⟩,
    ⟨.bin .add, [.tmp 0, .c (.int .i64 1)], none, none⟩,
    ⟨.mov, [.tmp 1], some 3, none⟩]))
      .skip))))
    (.region [
    ⟨.mov, [.loc 4], none, none⟩,
    ⟨.bin .add, [.tmp 0, .c (.int .i64 1)], none, none⟩,
    ⟨.mov, [.tmp 1], some 4, none⟩]))))))
    (.seq
    (.region [
    ⟨.mov, [.loc 0], none, none⟩,
    ⟨.mov, [.loc 3], none, none⟩,
    ⟨.slice 1 true false false, [.tmp 0, .tmp 1], none, none⟩,
    ⟨.clear 1 [.int .i64 0], [.tmp 2], none, none⟩])
    (.seq
    (.region [
    ⟨.mov, [.loc 0], none, none⟩,
    ⟨.mov, [.loc 3], none, none⟩,
    ⟨.slice 1 false true false, [.tmp 0, .tmp 1], none, none⟩,
    ⟨.mov, [.tmp 2], some 2, none⟩])
    .ret)))))) }
def put_NewLay_1 : AFn := { nloc := 2, npar := 1, res := [.loc 1], body :=
    (.seq
    (.region [
    ⟨.mov, [.c (.bool false)], some 1, none⟩])
    (.seq
    (.region [
    ⟨.mov, [.loc 0], none, none⟩,
    ⟨.bin .lss, [.tmp 0, .c (.int .i64 0)], none, none⟩,
    ⟨.mov, [.tmp 1], some 1, none⟩])
    .ret)) }
def ref06_there : AFn := { nloc := 4, npar := 2, res := [.loc 3], body :=
    (.seq
    (.region [
    ⟨.box, [.loc 0], some 2, none⟩,
    ⟨.mov, [.c (.bool false)], some 3, none⟩])
    (.seq
    (.region [
    ⟨.mov, [.loc 1], none, none⟩,
    ⟨.bin .geq, [.tmp 0, .c (.int .i64 0)], none, none⟩,
    ⟨.mov, [.tmp 1], none, none⟩,
    ⟨.mov, [.loc 1], none, some (2, true)⟩,
    ⟨.faddr 0, [.loc 2], none, some (2, true)⟩,
    ⟨.load none, [.tmp 4], none, some (2, true)⟩,
    ⟨.len, [.tmp 5], none, some (2, true)⟩,
    ⟨.bin .lss, [.tmp 3, .tmp 6], none, some (2, true)⟩,
    ⟨.pick, [.tmp 2, .tmp 7, .c (.bool false)], none, none⟩,
    ⟨.mov, [.tmp 8], some 3, none⟩])
    .ret)) }
def ref06_with : AFn := { nloc := 6, npar := 3, res := [.cell 4 (some 2)], body :=
    (.seq
    (.region [
    ⟨.box, [.loc 0], some 3, none⟩,
    ⟨.alloc [.nils, .int .u64 0], [], some 4, none⟩])
    (.seq
    (.region [
    ⟨.mov, [.c (.nils)], some 5, none⟩])
    (.seq
    (.region [
    ⟨.mov, [.loc 5], none, none⟩,
    ⟨.faddr 0, [.loc 3], none, none⟩,
    ⟨.load none, [.tmp 1], none, none⟩,
    ⟨.append 1 8, [.tmp 0, .tmp 2], none, none⟩,
    ⟨.mov, [.tmp 3], some 5, none⟩])
    (.seq
    (.region [
    ⟨.mov, [.loc 5], none, none⟩,
    ⟨.mov, [.loc 1], none, none⟩,
    ⟨.mov, [.loc 2], none, none⟩,
    ⟨.iaddr 1 none, [.tmp 0, .tmp 1], none, none⟩,
    ⟨.store 1, [.tmp 3, .tmp 2], none, none⟩])
    (.seq
    (.region [
    ⟨.mov, [.loc 5], none, none⟩,
    ⟨.faddr 1, [.loc 3], none, none⟩,
    ⟨.load none, [.tmp 1], none, none⟩,
    ⟨.bin .add, [.tmp 2, .c (.int .u64 1)], none, none⟩,
    ⟨.build [.nils, .int .u64 0] [(0, 1), (1, 1)], [.tmp 0, .tmp 3], none, none⟩,
    ⟨.store 2, [.loc 4, .tmp 4], none, none⟩])
    .ret))))) }
def conf_within : AFn := { nloc := 4, npar := 3, res := [.loc 3], body :=
    (.seq
    (.region [
    ⟨.mov, [.c (.bool false)], some 3, none⟩])
    (.seq
    (.region [
    ⟨.mov, [.loc 0], none, none⟩,
    ⟨.mov, [.loc 1], none, none⟩,
    ⟨.bin .geq, [.tmp 0, .tmp 1], none, none⟩,
    ⟨.mov, [.tmp 2], none, none⟩,
    ⟨.mov, [.loc 0], none, some (3, true)⟩,
    ⟨.mov, [.loc 2], none, some (3, true)⟩,
    ⟨.bin .leq, [.tmp 4, .tmp 5], none, some (3, true)⟩,
    ⟨.pick, [.tmp 3, .tmp 6, .c (.bool false)], none, none⟩,
    ⟨.mov, [.tmp 7], some 3, none⟩])
    .ret)) }
def slices_Clone_uint64 : AFn := { nloc := 3, npar := 1, res := [.loc 1], body :=
    (.seq
    (.region [
    ⟨.mov, [.c (.nils)], some 1, none⟩])
    (.seq
    (.seq
    (.region [
    ⟨.mov, [.loc 0], none, none⟩,
    ⟨.eqv .slc false, [.tmp 0, .c (.nils)], some 2, none⟩])
    (.cond (.loc 2)
      (.seq
      (.region [
    ⟨.mov, [.c (.nils)], some 1, none⟩])
      .ret)
      .skip))
    (.seq
    (.region [
    ⟨.lit 0 1 [.int .u64 0] [], [], none, none⟩,
    ⟨.mov, [.loc 0], none, none⟩,
    ⟨.append 1 8, [.tmp 0, .tmp 1], none, none⟩,
    ⟨.mov, [.tmp 2], some 1, none⟩])
    .ret))) }
def put_Put_look : AFn := { nloc := 3, npar := 2, res := [], body :=
    (.seq
    (.region [
    ⟨.mov, [.loc 0], none, none⟩,
    ⟨.mov, [.loc 0], none, none⟩,
    ⟨.nilc, [.tmp 0], none, none⟩,
    ⟨.faddr 0, [.tmp 2], none, none⟩,
    ⟨.faddr 7, [.tmp 3], none, none⟩,
    ⟨.store 1, [.tmp 4, .c (.int .i64 2)], none, none⟩,
    ⟨.nilc, [.tmp 1], none, none⟩,
    ⟨.faddr 11, [.tmp 6], none, none⟩,
    ⟨.store 1, [.tmp 7, .c (.nils)], none, none⟩])
    (.seq
    (.draw [0, 1, 2, 3, 4, 5, 6, 7, 8, 9, 10, 11, 12] 0 [
    ⟨.mov, [.loc 0], none, none⟩,
    ⟨.nilc, [.tmp 0], none, none⟩,
    ⟨.faddr 0, [.tmp 1], none, none⟩,
    ⟨.mov, [.loc 1], none, none⟩,
    ⟨.call 219, [.tmp 2, .tmp 3], none, none⟩,
    ⟨.mov, [.loc 0], none, none⟩,
    ⟨.nilc, [.tmp 5], none, none⟩,
    ⟨.faddr 0, [.tmp 6], none, none⟩,
    ⟨.faddr 0, [.tmp 7], none, none⟩,
    ⟨.faddr 1, [.tmp 8], none, none⟩,
    ⟨.load none, [.tmp 9], none, none⟩,
    ⟨.conv .u32, [.tmp 10], none, none⟩,
    ⟨.bin .geq, [.tmp 4, .tmp 11], some 2, none⟩] [(10, [0])])
    (.cond (.loc 2)
      (.region [
    ⟨.mov, [.loc 0], none, none⟩,
    ⟨.nilc, [.tmp 0], none, none⟩,
    ⟨.faddr 0, [.tmp 1], none, none⟩,
    ⟨.faddr 7, [.tmp 2], none, none⟩,
    ⟨.store 1, [.tmp 3, .c (.int .i64 4)], none, none⟩])
      .skip))) }
def put_Put_lay : AFn := { nloc := 2, npar := 2, res := [], body :=
    (.seq
    (.draw [0, 1, 2, 3, 4, 5, 6, 7, 8, 9, 10] 0 [
    ⟨.mov, [.loc 1], none, none⟩,
    ⟨.mov, [.loc 0], none, none⟩,
    ⟨.nilc, [.tmp 1], none, none⟩,
    ⟨.faddr 0, [.tmp 2], none, none⟩,
    ⟨.call 210, [.tmp 3, .c (.int .i64 0)], none, none⟩,
    ⟨.mov, [.loc 0], none, none⟩,
    ⟨.nilc, [.tmp 5], none, none⟩,
    ⟨.faddr 10, [.tmp 6], none, none⟩,
    ⟨.load none, [.tmp 7], none, none⟩,
    ⟨.conv .u64, [.tmp 8], none, none⟩,
    ⟨.call 22, [.tmp 0, .tmp 4, .tmp 9], none, none⟩] [(8, [0])])
    (.region [
    ⟨.mov, [.loc 0], none, none⟩,
    ⟨.nilc, [.tmp 0], none, none⟩,
    ⟨.faddr 0, [.tmp 1], none, none⟩,
    ⟨.faddr 7, [.tmp 2], none, none⟩,
    ⟨.store 1, [.tmp 3, .c (.int .i64 3)], none, none⟩])) }
def put_Put_swing : AFn := { nloc := 3, npar := 2, res := [], body :=
    (.seq
    (.region [
    ⟨.mov, [.loc 0], none, none⟩,
    ⟨.nilc, [.tmp 0], none, none⟩,
    ⟨.faddr 0, [.tmp 1], none, none⟩,
    ⟨.mov, [.loc 1], none, none⟩,
    ⟨.mov, [.loc 0], none, none⟩,
    ⟨.nilc, [.tmp 4], none, none⟩,
    ⟨.faddr 0, [.tmp 5], none, none⟩,
    ⟨.faddr 8, [.tmp 6], none, none⟩,
    ⟨.load none, [.tmp 7], none, none⟩,
    ⟨.call 211, [.tmp 8, .c (.int .u32 1)], none, none⟩,
    ⟨.call 212, [.tmp 2, .tmp 3, .tmp 9], some 2, none⟩])
    (.cond (.loc 2)
      (.region [
    ⟨.mov, [.loc 0], none, none⟩,
    ⟨.nilc, [.tmp 0], none, none⟩,
    ⟨.faddr 12, [.tmp 1], none, none⟩,
    ⟨.store 1, [.tmp 2, .c (.nils)], none, none⟩])
      .skip)) }
def put_Put_take : AFn := { nloc := 3, npar := 2, res := [], body :=
    (.seq
    (.draw [0, 1, 2, 3, 4, 5, 6, 7, 8, 9, 10, 11, 12, 13, 14, 15, 16, 17, 18, 19, 20, 21, 22, 23, 24, 25] 0 [
    ⟨.mov, [.loc 0], none, none⟩,
    ⟨.mov, [.loc 0], none, none⟩,
    ⟨.nilc, [.tmp 1], none, none⟩,
    ⟨.faddr 11, [.tmp 2], none, none⟩,
    ⟨.load none, [.tmp 3], none, none⟩,
    ⟨.mov, [.loc 1], none, none⟩,
    ⟨.mov, [.loc 0], none, none⟩,
    ⟨.nilc, [.tmp 6], none, none⟩,
    ⟨.faddr 0, [.tmp 7], none, none⟩,
    ⟨.mov, [.loc 0], none, none⟩,
    ⟨.nilc, [.tmp 9], none, none⟩,
    ⟨.faddr 11, [.tmp 10], none, none⟩,
    ⟨.load none, [.tmp 11], none, none⟩,
    ⟨.len, [.tmp 12], none, none⟩,
    ⟨.mov, [.loc 0], none, none⟩,
    ⟨.call 220, [.tmp 14], none, none⟩,
    ⟨.conv .i64, [.tmp 15], none, none⟩,
    ⟨.bin .sub, [.tmp 13, .tmp 16], none, none⟩,
    ⟨.call 210, [.tmp 8, .tmp 17], none, none⟩,
    ⟨.call 24, [.tmp 5, .tmp 18], none, none⟩,
    ⟨.conv .i64, [.tmp 19], none, none⟩,
    ⟨.lit 1 1 [.int .i64 0] [(0, 1)], [.tmp 20], none, none⟩,
    ⟨.append 1 8, [.tmp 4, .tmp 21], none, none⟩,
    ⟨.nilc, [.tmp 0], none, none⟩,
    ⟨.faddr 11, [.tmp 23], none, none⟩,
    ⟨.store 1, [.tmp 24, .tmp 22], none, none⟩] [(4, [16, 19, 20, 22]), (12, [16])])
    (.seq
    (.draw [0, 1, 2, 3, 4, 5, 6, 7, 8] 0 [
    ⟨.mov, [.loc 0], none, none⟩,
    ⟨.nilc, [.tmp 0], none, none⟩,
    ⟨.faddr 11, [.tmp 1], none, none⟩,
    ⟨.load none, [.tmp 2], none, none⟩,
    ⟨.len, [.tmp 3], none, none⟩,
    ⟨.mov, [.loc 0], none, none⟩,
    ⟨.call 220, [.tmp 5], none, none⟩,
    ⟨.conv .i64, [.tmp 6], none, none⟩,
    ⟨.bin .eql, [.tmp 4, .tmp 7], some 2, none⟩] [(3, [7])])
    (.cond (.loc 2)
      (.region [
    ⟨.mov, [.loc 0], none, none⟩,
    ⟨.nilc, [.tmp 0], none, none⟩,
    ⟨.faddr 0, [.tmp 1], none, none⟩,
    ⟨.faddr 7, [.tmp 2], none, none⟩,
    ⟨.store 1, [.tmp 3, .c (.int .i64 5)], none, none⟩])
      .skip))) }
def put_Put_cut : AFn := { nloc := 3, npar := 2, res := [], body :=
    (.seq
    (.draw [0, 1, 2, 3, 4, 5, 6, 7, 8, 9, 10, 11, 12] 0 [
    ⟨.mov, [.loc 0], none, none⟩,
    ⟨.nilc, [.tmp 0], none, none⟩,
    ⟨.faddr 0, [.tmp 1], none, none⟩,
    ⟨.mov, [.loc 1], none, none⟩,
    ⟨.mov, [.loc 0], none, none⟩,
    ⟨.nilc, [.tmp 4], none, none⟩,
    ⟨.faddr 0, [.tmp 5], none, none⟩,
    ⟨.faddr 8, [.tmp 6], none, none⟩,
    ⟨.load none, [.tmp 7], none, none⟩,
    ⟨.mov, [.loc 0], none, none⟩,
    ⟨.call 220, [.tmp 9], none, none⟩,
    ⟨.call 221, [.tmp 8, .tmp 10], none, none⟩,
    ⟨.call 212, [.tmp 2, .tmp 3, .tmp 11], some 2, none⟩] [(8, [11])])
    (.cond (.loc 2)
      (.draw [0, 1, 2, 3, 4, 5, 6, 7, 8, 9, 10, 11, 12, 13] 0 [
    ⟨.mov, [.loc 0], none, none⟩,
    ⟨.mov, [.loc 0], none, none⟩,
    ⟨.nilc, [.tmp 1], none, none⟩,
    ⟨.faddr 11, [.tmp 2], none, none⟩,
    ⟨.load none, [.tmp 3], none, none⟩,
    ⟨.mov, [.loc 0], none, none⟩,
    ⟨.nilc, [.tmp 5], none, none⟩,
    ⟨.faddr 10, [.tmp 6], none, none⟩,
    ⟨.load none, [.tmp 7], none, none⟩,
    ⟨.lit 1 1 [.int .i64 0] [(0, 1)], [.tmp 8], none, none⟩,
    ⟨.append 1 8, [.tmp 4, .tmp 9], none, none⟩,
    ⟨.nilc, [.tmp 0], none, none⟩,
    ⟨.faddr 12, [.tmp 11], none, none⟩,
    ⟨.store 1, [.tmp 12, .tmp 10], none, none⟩] [(4, [10])])
      .skip)) }
def cell_Mem_Load_1 : AFn := { nloc := 3, npar := 1, res := [.loc 1, .loc 2], body :=
    (.seq
    (.region [
    ⟨.mov, [.c (.int .u64 0)], some 1, none⟩,
    ⟨.mov, [.c (.bool false)], some 2, none⟩])
    (.seq
    (.region [
    ⟨.mov, [.loc 0], none, none⟩,
    ⟨.mov, [.tmp 0], some 1, none⟩,
    ⟨.mov, [.c (.bool true)], some 2, none⟩])
    .ret)) }
def put_ring_load : AFn := { nloc := 3, npar := 2, res := [.loc 2], body :=
    (.seq
    (.region [
    ⟨.mov, [.c (.int .u32 0)], some 2, none⟩])
    (.seq
    (.region [
    ⟨.mov, [.loc 0], none, none⟩,
    ⟨.mov, [.loc 0], none, none⟩,
    ⟨.mov, [.loc 1], none, none⟩,
    ⟨.mov, [.loc 0], none, none⟩,
    ⟨.nilc, [.tmp 3], none, none⟩,
    ⟨.faddr 0, [.tmp 4], none, none⟩,
    ⟨.load (some 6), [.tmp 5], none, none⟩,
    ⟨.mov, [.loc 0], none, none⟩,
    ⟨.nilc, [.tmp 7], none, none⟩,
    ⟨.faddr 6, [.tmp 8], none, none⟩,
    ⟨.load none, [.tmp 9], none, none⟩,
    ⟨.call 159, [.tmp 6, .tmp 10], none, none⟩,
    ⟨.call 24, [.tmp 2, .tmp 11], none, none⟩,
    ⟨.nilc, [.tmp 0], none, none⟩,
    ⟨.faddr 8, [.tmp 13], none, none⟩,
    ⟨.store 1, [.tmp 14, .tmp 12], none, none⟩,
    ⟨.nilc, [.tmp 1], none, none⟩,
    ⟨.faddr 9, [.tmp 16], none, none⟩,
    ⟨.store 1, [.tmp 17, .c (.int .u32 0)], none, none⟩])
    (.seq
    (.region [
    ⟨.mov, [.loc 0], none, none⟩,
    ⟨.nilc, [.tmp 0], none, none⟩,
    ⟨.faddr 8, [.tmp 1], none, none⟩,
    ⟨.load none, [.tmp 2], none, none⟩,
    ⟨.call 178, [.tmp 3], none, none⟩,
    ⟨.mov, [.tmp 4], some 2, none⟩])
    .ret))) }
def word_Tail : AFn := { nloc := 2, npar := 1, res := [.loc 1], body :=
    (.seq
    (.region [
    ⟨.mov, [.c (.int .u32 0)], some 1, none⟩])
    (.seq
    (.region [
    ⟨.mov, [.loc 0], none, none⟩,
    ⟨.conv .u32, [.tmp 0], none, none⟩,
    ⟨.mov, [.tmp 1], some 1, none⟩])
    .ret)) }
def cell_Mem_CAS : AFn := { nloc := 8, npar := 4, res := [.loc 6], body :=
    (.seq
    (.region [
    ⟨.box, [.loc 2], some 4, none⟩,
    ⟨.box, [.loc 3], some 5, none⟩,
    ⟨.mov, [.c (.bool false)], some 6, none⟩])
    (.seq
    (.region [
    ⟨.mov, [.loc 0], none, none⟩,
    ⟨.mov, [.loc 1], none, none⟩,
    ⟨.mkfn 51 0, [.loc 4, .loc 5], none, none⟩,
    ⟨.call 50, [.tmp 0, .c (.int .i64 3), .tmp 1, .tmp 2], none, none⟩,
    ⟨.mov, [.tmp 3], none, none⟩,
    ⟨.extract 0, [.tmp 4], none, none⟩,
    ⟨.extract 1, [.tmp 4], none, none⟩,
    ⟨.mov, [.tmp 5], none, none⟩,
    ⟨.mov, [.tmp 6], some 7, none⟩])
    (.seq
    (.region [
    ⟨.mov, [.loc 7], none, none⟩,
    ⟨.mov, [.tmp 0], some 6, none⟩])
    .ret))) }
def word_Pack : AFn := { nloc := 3, npar := 2, res := [.loc 2], body :=
    (.seq
    (.region [
    ⟨.mov, [.c (.int .u64 0)], some 2, none⟩])
    (.seq
    (.region [
    ⟨.mov, [.loc 0], none, none⟩,
    ⟨.conv .u64, [.tmp 0], none, none⟩,
    ⟨.shf .shl, [.tmp 1, .c (.int .u64 32)], none, none⟩,
    ⟨.mov, [.loc 1], none, none⟩,
    ⟨.conv .u64, [.tmp 3], none, none⟩,
    ⟨.bin .or, [.tmp 2, .tmp 4], none, none⟩,
    ⟨.mov, [.tmp 5], some 2, none⟩])
    .ret)) }
def word_Head : AFn := { nloc := 2, npar := 1, res := [.loc 1], body :=
    (.seq
    (.region [
    ⟨.mov, [.c (.int .u32 0)], some 1, none⟩])
    (.seq
    (.region [
    ⟨.mov, [.loc 0], none, none⟩,
    ⟨.shf .shr, [.tmp 0, .c (.int .u64 32)], none, none⟩,
    ⟨.conv .u32, [.tmp 1], none, none⟩,
    ⟨.mov, [.tmp 2], some 1, none⟩])
    .ret)) }
def cell_Mem_there : AFn := { nloc := 3, npar := 2, res := [.loc 2], body :=
    (.seq
    (.region [
    ⟨.mov, [.c (.bool false)], some 2, none⟩])
    (.seq
    (.region [
    ⟨.mov, [.loc 0], none, none⟩,
    ⟨.eqv .ptr true, [.tmp 0, .c (.nilp)], none, none⟩,
    ⟨.mov, [.tmp 1], none, none⟩,
    ⟨.mov, [.loc 1], none, some (2, true)⟩,
    ⟨.bin .geq, [.tmp 3, .c (.int .i64 0)], none, some (2, true)⟩,
    ⟨.pick, [.tmp 2, .tmp 4, .c (.bool false)], none, none⟩,
    ⟨.mov, [.tmp 5], none, none⟩,
    ⟨.mov, [.loc 1], none, some (6, true)⟩,
    ⟨.mov, [.loc 0], none, some (6, true)⟩,
    ⟨.nilc, [.tmp 8], none, some (6, true)⟩,
    ⟨.faddr 7, [.tmp 9], none, some (6, true)⟩,
    ⟨.load none, [.tmp 10], none, some (6, true)⟩,
    ⟨.len, [.tmp 11], none, some (6, true)⟩,
    ⟨.bin .lss, [.tmp 7, .tmp 12], none, some (6, true)⟩,
    ⟨.pick, [.tmp 6, .tmp 13, .c (.bool false)], none, none⟩,
    ⟨.mov, [.tmp 14], some 2, none⟩])
    .ret)) }
def cell_counts_note : AFn := { nloc := 9, npar := 3, res := [], body :=
    (.seq
    (.region [
    ⟨.box, [.loc 1], some 3, none⟩])
    (.seq
    (.region [
    ⟨.mov, [.loc 0], none, none⟩,
    ⟨.nilc, [.tmp 0], none, none⟩,
    ⟨.faddr 0, [.tmp 1], none, none⟩,
    ⟨.load none, [.tmp 2], none, none⟩,
    ⟨.bin .add, [.tmp 3, .c (.int .u64 1)], none, none⟩,
    ⟨.nilc, [.tmp 0], none, none⟩,
    ⟨.faddr 0, [.tmp 5], none, none⟩,
    ⟨.store 1, [.tmp 6, .tmp 4], none, none⟩])
    (.seq
    (.block 0
    (.seq
    (.region [
    ⟨.faddr 0, [.loc 3], none, none⟩,
    ⟨.load none, [.tmp 0], none, none⟩,
    ⟨.bin .eql, [.tmp 1, .c (.int .i64 1)], none, none⟩,
    ⟨.mov, [.tmp 2], some 4, none⟩])
    (.cond (.loc 4)
      (.region [
    ⟨.mov, [.loc 0], none, none⟩,
    ⟨.nilc, [.tmp 0], none, none⟩,
    ⟨.faddr 1, [.tmp 1], none, none⟩,
    ⟨.faddr 0, [.tmp 2], none, none⟩,
    ⟨.load none, [.tmp 3], none, none⟩,
    ⟨.bin .add, [.tmp 4, .c (.int .u64 1)], none, none⟩,
    ⟨.nilc, [.tmp 0], none, none⟩,
    ⟨.faddr 1, [.tmp 6], none, none⟩,
    ⟨.faddr 0, [.tmp 7], none, none⟩,
    ⟨.store 1, [.tmp 8, .tmp 5], none, none⟩])
      (.seq
      (.region [
    ⟨.faddr 0, [.loc 3], none, none⟩,
    ⟨.load none, [.tmp 0], none, none⟩,
    ⟨.bin .eql, [.tmp 1, .c (.int .i64 2)], none, none⟩,
    ⟨.mov, [.tmp 2], some 5, none⟩])
      (.cond (.loc 5)
        (.region [
    ⟨.mov, [.loc 0], none, none⟩,
    ⟨.nilc, [.tmp 0], none, none⟩,
    ⟨.faddr 1, [.tmp 1], none, none⟩,
    ⟨.faddr 1, [.tmp 2], none, none⟩,
    ⟨.load none, [.tmp 3], none, none⟩,
    ⟨.bin .add, [.tmp 4, .c (.int .u64 1)], none, none⟩,
    ⟨.nilc, [.tmp 0], none, none⟩,
    ⟨.faddr 1, [.tmp 6], none, none⟩,
    ⟨.faddr 1, [.tmp 7], none, none⟩,
    ⟨.store 1, [.tmp 8, .tmp 5], none, none⟩])
        (.seq
        (.region [
    ⟨.faddr 0, [.loc 3], none, none⟩,
    ⟨.load none, [.tmp 0], none, none⟩,
    ⟨.bin .eql, [.tmp 1, .c (.int .i64 3)], none, none⟩,
    ⟨.mov, [.tmp 2], none, none⟩,
    ⟨.mov, [.loc 2], none, some (3, true)⟩,
    ⟨.pick, [.tmp 3, .tmp 4, .c (.bool false)], none, none⟩,
    ⟨.mov, [.tmp 5], some 6, none⟩])
        (.cond (.loc 6)
          (.region [
    ⟨.mov, [.loc 0], none, none⟩,
    ⟨.nilc, [.tmp 0], none, none⟩,
    ⟨.faddr 1, [.tmp 1], none, none⟩,
    ⟨.faddr 2, [.tmp 2], none, none⟩,
    ⟨.load none, [.tmp 3], none, none⟩,
    ⟨.bin .add, [.tmp 4, .c (.int .u64 1)], none, none⟩,
    ⟨.nilc, [.tmp 0], none, none⟩,
    ⟨.faddr 1, [.tmp 6], none, none⟩,
    ⟨.faddr 2, [.tmp 7], none, none⟩,
    ⟨.store 1, [.tmp 8, .tmp 5], none, none⟩])
          (.seq
          (.region [
    ⟨.faddr 0, [.loc 3], none, none⟩,
    ⟨.load none, [.tmp 0], none, none⟩,
    ⟨.bin .eql, [.tmp 1, .c (.int .i64 3)], none, none⟩,
    ⟨.mov, [.tmp 2], some 7, none⟩])
          (.cond (.loc 7)
            (.region [
    ⟨.mov, [.loc 0], none, none⟩,
    ⟨.nilc, [.tmp 0], none, none⟩,
    ⟨.faddr 1, [.tmp 1], none, none⟩,
    ⟨.faddr 3, [.tmp 2], none, none⟩,
    ⟨.load none, [.tmp 3], none, none⟩,
    ⟨.bin .add, [.tmp 4, .c (.int .u64 1)], none, none⟩,
    ⟨.nilc, [.tmp 0], none, none⟩,
    ⟨.faddr 1, [.tmp 6], none, none⟩,
    ⟨.faddr 3, [.tmp 7], none, none⟩,
    ⟨.store 1, [.tmp 8, .tmp 5], none, none⟩])
            (.region [
    ⟨.mov, [.loc 0], none, none⟩,
    ⟨.nilc, [.tmp 0], none, none⟩,
    ⟨.faddr 1, [.tmp 1], none, none⟩,
    ⟨.faddr 4, [.tmp 2], none, none⟩,
    ⟨.load none, [.tmp 3], none, none⟩,
    ⟨.bin .add, [.tmp 4, .c (.int .u64 1)], none, none⟩,
    ⟨.nilc, [.tmp 0], none, none⟩,
    ⟨.faddr 1, [.tmp 6], none, none⟩,
    ⟨.faddr 4, [.tmp 7], none, none⟩,
    ⟨.store 1, [.tmp 8, .tmp 5], none, none⟩]))))))))))
    (.seq
    (.draw [0, 1, 2, 3, 4, 5, 6, 7, 8, 9, 10] 0 [
    ⟨.mov, [.loc 0], none, none⟩,
    ⟨.mov, [.loc 0], none, none⟩,
    ⟨.nilc, [.tmp 1], none, none⟩,
    ⟨.faddr 6, [.tmp 2], none, none⟩,
    ⟨.load none, [.tmp 3], none, none⟩,
    ⟨.load (some 4), [.loc 3], none, none⟩,
    ⟨.lit 1 4 [.int .i64 0, .int .i64 0, .int .u64 0, .int .u64 0] [(0, 4)], [.tmp 5], none, none⟩,
    ⟨.append 4 32, [.tmp 4, .tmp 6], none, none⟩,
    ⟨.nilc, [.tmp 0], none, none⟩,
    ⟨.faddr 6, [.tmp 8], none, none⟩,
    ⟨.store 1, [.tmp 9, .tmp 7], none, none⟩] [(4, [7])])
    (.seq
    (.region [
    ⟨.mov, [.loc 0], none, none⟩,
    ⟨.nilc, [.tmp 0], none, none⟩,
    ⟨.faddr 6, [.tmp 1], none, none⟩,
    ⟨.load none, [.tmp 2], none, none⟩,
    ⟨.len, [.tmp 3], none, none⟩,
    ⟨.bin .gtr, [.tmp 4, .c (.int .i64 256)], some 8, none⟩])
    (.cond (.loc 8)
      (.region [
    ⟨.mov, [.loc 0], none, none⟩,
    ⟨.mov, [.loc 0], none, none⟩,
    ⟨.nilc, [.tmp 1], none, none⟩,
    ⟨.faddr 6, [.tmp 2], none, none⟩,
    ⟨.load none, [.tmp 3], none, none⟩,
    ⟨.slice 4 true false false, [.tmp 4, .c (.int .i64 1)], none, none⟩,
    ⟨.nilc, [.tmp 0], none, none⟩,
    ⟨.faddr 6, [.tmp 6], none, none⟩,
    ⟨.store 1, [.tmp 7, .tmp 5], none, none⟩])
      .skip)))))) }
def slices_IndexFunc_int : AFn := { nloc := 8, npar := 2, res := [.loc 2], body :=
    (.seq
    (.region [
    ⟨.mov, [.c (.int .i64 0)], some 2, none⟩])
    (.seq
    (.seq
    (.region [
    ⟨.mov, [.loc 0], none, none⟩,
    ⟨.len, [.tmp 0], some 4, none⟩,
    ⟨.mov, [.c (.int .i64 0)], some 5, none⟩])
    (.block 0
    (.loop
    (.seq
    (.region [
    ⟨.bin .lss, [.loc 5, .loc 4], some 6, none⟩])
    (.seq
    (.cond (.loc 6)
      .skip
      (.exit 0))
    (.seq
    (.block 1
    (.seq
    (.region [
    ⟨.mov, [.loc 5], none, none⟩,
    ⟨.mov, [.tmp 0], some 3, none⟩])
    (.seq
    (.region [
    ⟨.mov, [.loc 1], none, none⟩,
    ⟨.mov, [.loc 0], none, none⟩,
    ⟨.mov, [.loc 3], none, none⟩,
    ⟨.iaddr 1 none, [.tmp 1, .tmp 2], none, none⟩,
    ⟨.load none, [.tmp 3], none, none⟩,
    ⟨.callv, [.tmp 0, .tmp 4], some 7, none⟩])
    (.cond (.loc 7)
      (.seq
      (.region [
    ⟨.mov, [.loc 3], none, none⟩,
    ⟨.mov, [.tmp 0], some 2, none⟩])
      .ret)
      .skip))))
    (.region [
    ⟨.bin .add, [.loc 5, .c (.int .i64 1)], none, none⟩,
    ⟨.mov, [.tmp 0], some 5, none⟩])))))))
    (.seq
    (.region [
    ⟨.mov, [.c (.int .i64 (-1))], some 2, none⟩])
    .ret))) }
def put_Put_half : AFn := { nloc := 2, npar := 1, res := [.loc 1], body :=
    (.seq
    (.region [
    ⟨.mov, [.c (.int .u32 0)], some 1, none⟩])
    (.seq
    (.region [
    ⟨.mov, [.loc 0], none, none⟩,
    ⟨.nilc, [.tmp 0], none, none⟩,
    ⟨.faddr 0, [.tmp 1], none, none⟩,
    ⟨.faddr 0, [.tmp 2], none, none⟩,
    ⟨.faddr 1, [.tmp 3], none, none⟩,
    ⟨.load none, [.tmp 4], none, none⟩,
    ⟨.bin .quo, [.tmp 5, .c (.int .i64 2)], none, none⟩,
    ⟨.conv .u32, [.tmp 6], none, none⟩,
    ⟨.mov, [.tmp 7], some 1, none⟩])
    .ret)) }
def word_Drop : AFn := { nloc := 3, npar := 2, res := [.loc 2], body :=
    (.seq
    (.region [
    ⟨.mov, [.c (.int .u64 0)], some 2, none⟩])
    (.seq
    (.region [
    ⟨.mov, [.loc 0], none, none⟩,
    ⟨.call 179, [.tmp 0], none, none⟩,
    ⟨.mov, [.loc 0], none, none⟩,
    ⟨.call 182, [.tmp 2], none, none⟩,
    ⟨.mov, [.loc 1], none, none⟩,
    ⟨.bin .sub, [.tmp 3, .tmp 4], none, none⟩,
    ⟨.call 183, [.tmp 1, .tmp 5], none, none⟩,
    ⟨.mov, [.tmp 6], some 2, none⟩])
    .ret)) }
def word_Len : AFn := { nloc := 2, npar := 1, res := [.loc 1], body :=
    (.seq
    (.region [
    ⟨.mov, [.c (.int .u32 0)], some 1, none⟩])
    (.seq
    (.region [
    ⟨.mov, [.loc 0], none, none⟩,
    ⟨.call 182, [.tmp 0], none, none⟩,
    ⟨.mov, [.loc 0], none, none⟩,
    ⟨.call 179, [.tmp 2], none, none⟩,
    ⟨.bin .sub, [.tmp 1, .tmp 3], none, none⟩,
    ⟨.mov, [.tmp 4], some 1, none⟩])
    .ret)) }
def cell_Mem_CAS_1 : AFn := { nloc := 6, npar := 3, res := [.loc 3, .loc 4], body :=
    (.seq
    (.region [
    ⟨.mov, [.c (.int .u64 0)], some 3, none⟩,
    ⟨.mov, [.c (.bool false)], some 4, none⟩])
    (.seq
    (.seq
    (.region [
    ⟨.mov, [.loc 0], none, none⟩,
    ⟨.load none, [.loc 1], none, none⟩,
    ⟨.bin .neq, [.tmp 0, .tmp 1], some 5, none⟩])
    (.cond (.loc 5)
      (.seq
      (.region [
    ⟨.mov, [.loc 0], none, none⟩,
    ⟨.mov, [.tmp 0], some 3, none⟩,
    ⟨.mov, [.c (.bool false)], some 4, none⟩])
      .ret)
      .skip))
    (.seq
    (.region [
    ⟨.load none, [.loc 2], none, none⟩,
    ⟨.mov, [.tmp 0], some 3, none⟩,
    ⟨.mov, [.c (.bool true)], some 4, none⟩])
    .ret))) }
end Go.Am.F09
end
